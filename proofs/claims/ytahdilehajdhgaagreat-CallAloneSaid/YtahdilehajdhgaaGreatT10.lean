/- Part T10 of the proofs about the program: K1. Conditions: none. -/
import Derived.Test.YtahdilehajdhgaaGreatT04
import Derived.Test.YtahdilehajdhgaaGreatProg
import Derived.KernelRfl
open Go.Sak.ACK renaming of→F7
open Go.Sak.ACV renaming of→F2
open Go.Sak.AV renaming wf→M5
open List renaming reduceReplicate→D1
open Nat renaming reduceAdd→D4,reduceEqDiff→D0,reduceLeDiff→D3,reduceMul→D6,reduceSub→D5
open Go.Proofs.Tryz renaming prog→D8
open Go.Sak.Word renaming mk→E8
namespace Go.Sak
open Go Go.RowKit Go.Proofs
set_option linter.unusedVariables false
set_option linter.unusedSimpArgs false
set_option maxRecDepth 10000
set_option maxHeartbeats 8000000
theorem bP:Tryz.prog.follows .mixedOrders=true:=by kernel_rfl
def VI:AFn:=⟨31,(.seq (.reg [o1 1 (.box 25 0),o1 2 (.mv (ci 0))]) (.seq (.block 0 (.seq (.reg [o1 4 (.ld 3 true 1),o1 5 (.build [(.int .i64 0),(.int .i64 0),(.int .i64 0)] []),o1 6 (.eqs false [(.int .i64),(.int .i64),(.int .i64)] 4 5),o1 7 (.mv 6),o4 8 (.faddr 1 1) 7,o4 9 (.ld 1 false 8) 7,o4 10 (.faddr 0 1) 7,o4 11 (.ld 1 false 10) 7,o4 12 (.bin .leq 9 11) 7,o1 13 (.pick 7 (.const (.bool true)) 12),o1 3 (.mv 13)]) (.cond 3 (.seq (.reg [o1 2 (.mv (ci 0))]) .ret) (.seq (.reg [o1 15 (.faddr 0 1),o1 16 (.ld 1 false 15),o1 17 (.bin .lss 16 (ci 0)),o1 18 (.mv 17),o3 19 (.faddr 1 1) 18,o3 20 (.ld 1 false 19) 18,o3 21 (.faddr 0 1) 18,o3 22 (.ld 1 false 21) 18,o3 23 (.bin .add (ci 9223372036854775807) 22) 18,o3 24 (.bin .gtr 20 23) 18,o1 25 (.pick 18 24 (.const (.bool false))),o1 14 (.mv 25)]) (.cond 14 (.seq (.reg [o1 2 (.mv (ci 9223372036854775807))]) .ret) .skip))))) (.seq (.reg [o1 26 (.faddr 1 1),o1 27 (.ld 1 false 26),o1 28 (.faddr 0 1),o1 29 (.ld 1 false 28),o1 30 (.bin .sub 27 29),o1 2 (.mv 30)]) .ret))),[(2,none)]⟩
theorem ZN:xf D8 97=some VI:=by kernel_rfl
theorem rQ {pF pH pG:Int}  : cX D8 97 [.agg [.int .i64 pF,.int .i64 pH,.int .i64 pG]] ((.int .i64 (iN (E8 pF pH pG))),[],[]):=by
  refine aI bP ZN (by simp [VI]) fun hw _=>?_
  simp only [iR,M5,aY] at hw
  repeat' with_reducible first|refine aQ (fun h=>?_) (fun h=>?_)|refine bB (fun h=>?_) (fun h=>?_)|refine aF (fun h=>?_) (fun h=>?_)|refine aH (fun h=>?_) (fun h=>?_)|refine bJ ?_ ?_ ?_ ?_|refine aR ?_ ?_|refine bC ?_ ?_|refine bM ?_ ?_|simp -implicitDefEqProofs only [VI,qA,cS,cW,aJ,aP,qU,D1,D4,D5,D3,D0,D6,reduceIte,reduceCtorEq, *]
  all_goals first
    | (simp; done)
    | exact bE
    | exact bE.symm
    | grind [aY,bL,bI,iN]

def BF:AFn:=⟨9,(.seq (.reg [o1 2 (.box 25 0),o1 4 (.mv (.const (.bool false)))]) (.seq (.reg [o1 5 (.ld 3 true 2),o1 6 (.call 97 [5]),o1 7 (.mv 1),o1 8 (.bin .geq 6 7),o1 4 (.mv 8)]) .ret)),[(4,none)]⟩
theorem SA:xf D8 186=some BF:=by kernel_rfl
theorem xS {pF pH:Int} {pG room:Int}  : cX D8 186 [.agg [.int .i64 pF,.int .i64 pH,.int .i64 pG],.int .i64 room] ((.bool (oP (E8 pF pH pG) room)),[],[]):=by
  refine aI bP SA (by simp [BF]) fun hw _=>?_
  simp only [iR,M5,aY] at hw
  repeat' with_reducible first|refine aQ (fun h=>?_) (fun h=>?_)|refine bB (fun h=>?_) (fun h=>?_)|refine aF (fun h=>?_) (fun h=>?_)|refine aH (fun h=>?_) (fun h=>?_)|refine bJ ?_ ?_ ?_ ?_|refine aR ?_ ?_|refine bC ?_ ?_|refine bM ?_ ?_|refine P0 (rQ) ?_ ?_ ?_|refine F2 (rQ) ?_ ?_ ?_|refine F7 (rQ) ?_ ?_|simp -implicitDefEqProofs only [BF,qA,cS,cW,aJ,aP,qU,D1,D4,D5,D3,D0,D6,reduceIte,reduceCtorEq, *]
  all_goals first
    | (simp; done)
    | exact bE
    | exact bE.symm
    | grind [aY,bL,bI,oP]

def VH:AFn:=⟨15,(.seq (.reg [o1 6 (.mv (.const (.bool false)))]) (.seq (.reg [o1 7 (.mv 0),o1 8 (.mv 1),o1 9 (.bin .geq 7 8),o1 10 (.mv 9),o3 11 (.mv 0) 10,o3 12 (.mv 2) 10,o3 13 (.bin .leq 11 12) 10,o1 14 (.pick 10 13 (.const (.bool false))),o1 6 (.mv 14)]) .ret)),[(6,none)]⟩
theorem ZM:xf D8 96=some VH:=by kernel_rfl
theorem Wb {n low high:Int}  : cX D8 96 [.int .i64 n,.int .i64 low,.int .i64 high] ((.bool (cD n low high)),[],[]):=by
  refine aI bP ZM (by simp [VH]) fun hw _=>?_
  simp only [iR,M5,aY] at hw
  repeat' with_reducible first|refine aQ (fun h=>?_) (fun h=>?_)|refine bB (fun h=>?_) (fun h=>?_)|refine aF (fun h=>?_) (fun h=>?_)|refine aH (fun h=>?_) (fun h=>?_)|refine bJ ?_ ?_ ?_ ?_|refine aR ?_ ?_|refine bC ?_ ?_|refine bM ?_ ?_|simp -implicitDefEqProofs only [VH,qA,cS,cW,aJ,aP,qU,D1,D4,D5,D3,D0,D6,reduceIte,reduceCtorEq, *]
  all_goals first
    | (simp; done)
    | exact bE
    | exact bE.symm
    | grind [aY,bL,bI,cD]

def UN:AFn:=⟨29,(.seq (.reg [o1 2 (.box 25 0),o1 4 (.mv (.const (.bool false)))]) (.seq (.reg [o1 5 (.mv (.func 96))]) (.seq (.reg [o1 6 (.mv 5),o1 7 (.faddr 1 2),o1 8 (.ld 1 false 7),o1 9 (.faddr 0 2),o1 10 (.ld 1 false 9),o1 11 (.callv 6 [8,10,(ci 1099511627776)]),o1 12 (.mv 11),o3 13 (.faddr 0 2) 12,o3 14 (.ld 1 false 13) 12,o3 15 (.bin .geq 14 (ci 0)) 12,o1 16 (.pick 12 15 (.const (.bool false))),o1 17 (.mv 16),o3 18 (.ld 3 true 2) 17,o3 19 (.call 97 [18]) 17,o3 20 (.mv 1) 17,o3 21 (.bin .leq 19 20) 17,o1 22 (.pick 17 21 (.const (.bool false))),o1 23 (.mv 22),o3 24 (.mv 5) 23,o3 25 (.faddr 2 2) 23,o3 26 (.ld 1 false 25) 23,o3 27 (.callv 24 [26,(ci 0),(ci 2)]) 23,o1 28 (.pick 23 27 (.const (.bool false))),o1 4 (.mv 28)]) .ret))),[(4,none)]⟩
theorem YP:xf D8 52=some UN:=by kernel_rfl
theorem Dz {pF pH:Int} {pG room:Int}  : cX D8 52 [.agg [.int .i64 pF,.int .i64 pH,.int .i64 pG],.int .i64 room] ((.bool (cT (E8 pF pH pG) room)),[],[]):=by
  refine aI bP YP (by simp [UN]) fun hw _=>?_
  simp only [iR,M5,aY] at hw
  repeat' with_reducible first|refine aQ (fun h=>?_) (fun h=>?_)|refine bB (fun h=>?_) (fun h=>?_)|refine aF (fun h=>?_) (fun h=>?_)|refine aH (fun h=>?_) (fun h=>?_)|refine bJ ?_ ?_ ?_ ?_|refine aR ?_ ?_|refine bC ?_ ?_|refine bM ?_ ?_|refine P0 (Wb) ?_ ?_ ?_|refine F2 (Wb) ?_ ?_ ?_|refine F7 (Wb) ?_ ?_|refine P0 (rQ) ?_ ?_ ?_|refine F2 (rQ) ?_ ?_ ?_|refine F7 (rQ) ?_ ?_|simp -implicitDefEqProofs only [UN,qA,cS,cW,aJ,aP,qU,D1,D4,D5,D3,D0,D6,reduceIte,reduceCtorEq, *]
  all_goals first
    | (simp; done)
    | exact bE
    | exact bE.symm
    | grind [aY,bL,bI,cT]

def BB:AFn:=⟨11,(.seq (.reg [o1 4 (.mv (.const (.bool false)))]) (.seq (.reg [o1 5 (.mv 0),o1 6 (.bin .geq 5 (ci 0)),o1 7 (.mv 6),o3 8 (.mv 1) 7,o3 9 (.bin .geq 8 (ci 1)) 7,o1 10 (.pick 7 9 (.const (.bool false))),o1 4 (.mv 10)]) .ret)),[(4,none)]⟩
theorem RU:xf D8 139=some BB:=by kernel_rfl
theorem Ks {p room:Int}  : cX D8 139 [.int .i64 p,.int .i64 room] ((.bool (Jl p room)),[],[]):=by
  refine aI bP RU (by simp [BB]) fun hw _=>?_
  simp only [iR,M5,aY] at hw
  repeat' with_reducible first|refine aQ (fun h=>?_) (fun h=>?_)|refine bB (fun h=>?_) (fun h=>?_)|refine aF (fun h=>?_) (fun h=>?_)|refine aH (fun h=>?_) (fun h=>?_)|refine bJ ?_ ?_ ?_ ?_|refine aR ?_ ?_|refine bC ?_ ?_|refine bM ?_ ?_|simp -implicitDefEqProofs only [BB,qA,cS,cW,aJ,aP,qU,D1,D4,D5,D3,D0,D6,reduceIte,reduceCtorEq, *]
  all_goals first
    | (simp; done)
    | exact bE
    | exact bE.symm
    | grind [aY,bL,bI,Jl]

def VJ:AFn:=⟨12,(.seq (.reg [o1 4 (.mv (ci 0))]) (.seq (.seq (.reg [o1 5 (.mv 0),o1 6 (.mv 1),o1 7 (.call 139 [5,6]),o1 8 (.not 7)]) (.cond 8 (.seq (.reg [o1 4 (.mv (ci 0))]) .ret) .skip)) (.seq (.reg [o1 9 (.mv 0),o1 10 (.mv 1),o1 11 (.bin .rem 9 10),o1 4 (.mv 11)]) .ret))),[(4,none)]⟩
theorem ZO:xf D8 98=some VJ:=by kernel_rfl
theorem lR {p room:Int}  : cX D8 98 [.int .i64 p,.int .i64 room] ((.int .i64 (iI p room)),[],[]):=by
  refine aI bP ZO (by simp [VJ]) fun hw _=>?_
  simp only [iR,M5,aY] at hw
  repeat' with_reducible first|refine aQ (fun h=>?_) (fun h=>?_)|refine bB (fun h=>?_) (fun h=>?_)|refine aF (fun h=>?_) (fun h=>?_)|refine aH (fun h=>?_) (fun h=>?_)|refine bJ ?_ ?_ ?_ ?_|refine aR ?_ ?_|refine bC ?_ ?_|refine bM ?_ ?_|refine P0 (Ks) ?_ ?_ ?_|refine F2 (Ks) ?_ ?_ ?_|refine F7 (Ks) ?_ ?_|simp -implicitDefEqProofs only [VJ,qA,cS,cW,aJ,aP,qU,D1,D4,D5,D3,D0,D6,reduceIte,reduceCtorEq, *]
  all_goals first
    | (simp; done)
    | exact bE
    | exact bE.symm
    | grind [aY,bL,bI,iI,Jl]

def BE:AFn:=⟨14,(.seq (.reg [o1 2 (.box 25 0),o1 4 (.mv (.const (.bool false)))]) (.seq (.reg [o1 5 (.faddr 2 2),o1 6 (.ld 1 false 5),o1 7 (.bin .eql 6 (ci 2)),o1 8 (.mv 7),o4 9 (.ld 3 true 2) 8,o4 10 (.mv 1) 8,o4 11 (.call 52 [9,10]) 8,o4 12 (.not 11) 8,o1 13 (.pick 8 (.const (.bool true)) 12),o1 4 (.mv 13)]) .ret)),[(4,none)]⟩
theorem RZ:xf D8 185=some BE:=by kernel_rfl
theorem qB {pF pH:Int} {pG room:Int}  : cX D8 185 [.agg [.int .i64 pF,.int .i64 pH,.int .i64 pG],.int .i64 room] ((.bool (oU (E8 pF pH pG) room)),[],[]):=by
  refine aI bP RZ (by simp [BE]) fun hw _=>?_
  simp only [iR,M5,aY] at hw
  repeat' with_reducible first|refine aQ (fun h=>?_) (fun h=>?_)|refine bB (fun h=>?_) (fun h=>?_)|refine aF (fun h=>?_) (fun h=>?_)|refine aH (fun h=>?_) (fun h=>?_)|refine bJ ?_ ?_ ?_ ?_|refine aR ?_ ?_|refine bC ?_ ?_|refine bM ?_ ?_|refine P0 (Dz) ?_ ?_ ?_|refine F2 (Dz) ?_ ?_ ?_|refine F7 (Dz) ?_ ?_|simp -implicitDefEqProofs only [BE,qA,cS,cW,aJ,aP,qU,D1,D4,D5,D3,D0,D6,reduceIte,reduceCtorEq, *]
  all_goals first
    | (simp; done)
    | exact bE
    | exact bE.symm
    | grind [aY,bL,bI,oU]

def BD:AFn:=⟨8,(.seq (.reg [o1 3 (.alloc 25 [(.int .i64 0),(.int .i64 0),(.int .i64 0)]),o1 4 (.mv (ci 0)),o1 5 (.mv (ci 0))]) (.seq (.reg [o1 6 (.ld 3 true 1),o1 7 (.mv 0),o2 (.st 3 3 6),o1 4 (.mv (ci 0)),o1 5 (.mv 7)]) .ret)),[(3,some (3,true)),(4,none),(5,none)]⟩
theorem RY:xf D8 184=some BD:=by kernel_rfl
theorem Ku {pF pH:Int} {pG r:Int}  : cX D8 184 [.int .i64 r,.pv [.int .i64 pF,.int .i64 pH,.int .i64 pG]] ((.tup [.agg (hX (((((E8 pF pH pG),0,r):Word×Int×Int)).1)),.int .i64 (((((E8 pF pH pG),0,r):Word×Int×Int)).2.1),.int .i64 (((((E8 pF pH pG),0,r):Word×Int×Int)).2.2)]),[],[]):=by
  refine aI bP RY (by simp [BD]) fun hw _=>?_
  simp only [iR,M5,aY] at hw
  repeat' with_reducible first|refine aQ (fun h=>?_) (fun h=>?_)|refine bB (fun h=>?_) (fun h=>?_)|refine aF (fun h=>?_) (fun h=>?_)|refine aH (fun h=>?_) (fun h=>?_)|refine bJ ?_ ?_ ?_ ?_|refine aR ?_ ?_|refine bC ?_ ?_|refine bM ?_ ?_|simp -implicitDefEqProofs only [BD,qA,cS,cW,aJ,aP,qU,D1,D4,D5,D3,D0,D6,reduceIte,reduceCtorEq,hX, *]
  all_goals first
    | (simp; done)
    | exact bE
    | exact bE.symm
    | grind [aY,bL,bI]

def AY:AFn:=⟨50,(.seq (.reg [o1 2 (.box 25 0),o1 4 (.alloc 25 [(.int .i64 0),(.int .i64 0),(.int .i64 0)]),o1 5 (.mv (ci 0)),o1 6 (.mv (ci 0))]) (.seq (.reg [o1 9 (.mkfn (.func 184) [] [2]),o1 7 (.mv 9)]) (.seq (.block 0 (.seq (.reg [o1 11 (.ld 3 true 2),o1 12 (.mv 1),o1 13 (.call 185 [11,12]),o1 10 (.mv 13)]) (.cond 10 (.seq (.reg [o1 14 (.mv 7),o1 15 (.callv 14 [(ci 7)]),o1 16 (.ext 15 0),o1 17 (.ext 15 1),o1 18 (.ext 15 2),o2 (.st 3 4 16),o1 5 (.mv 17),o1 6 (.mv 18)]) .ret) (.seq (.reg [o1 20 (.faddr 2 2),o1 21 (.ld 1 false 20),o1 22 (.bin .eql 21 (ci 1)),o1 19 (.mv 22)]) (.cond 19 (.seq (.reg [o1 23 (.mv 7),o1 24 (.callv 23 [(ci 6)]),o1 25 (.ext 24 0),o1 26 (.ext 24 1),o1 27 (.ext 24 2),o2 (.st 3 4 25),o1 5 (.mv 26),o1 6 (.mv 27)]) .ret) (.seq (.reg [o1 29 (.ld 3 true 2),o1 30 (.mv 1),o1 31 (.call 186 [29,30]),o1 32 (.mv 31),o4 33 (.faddr 1 2) 32,o4 34 (.ld 1 false 33) 32,o4 35 (.bin .eql 34 (ci 1099511627776)) 32,o1 36 (.pick 32 (.const (.bool true)) 35),o1 28 (.mv 36)]) (.cond 28 (.seq (.reg [o1 37 (.mv 7),o1 38 (.callv 37 [(ci 2)]),o1 39 (.ext 38 0),o1 40 (.ext 38 1),o1 41 (.ext 38 2),o2 (.st 3 4 39),o1 5 (.mv 40),o1 6 (.mv 41)]) .ret) .skip))))))) (.seq (.reg [o1 42 (.faddr 1 2),o1 43 (.ld 1 false 42),o1 8 (.mv 43)]) (.seq (.reg [o1 44 (.faddr 1 2),o1 45 (.ld 1 false 44),o1 46 (.bin .add 45 (ci 1)),o1 47 (.faddr 1 2),o2 (.st 1 47 46)]) (.seq (.reg [o1 48 (.ld 3 true 2),o1 49 (.mv 8),o2 (.st 3 4 48),o1 5 (.mv 49),o1 6 (.mv (ci 1))]) .ret)))))),[(4,some (3,true)),(5,none),(6,none)]⟩
theorem RP:xf D8 125=some AY:=by kernel_rfl
theorem xQ {pF pH:Int} {pG room:Int}  : cX D8 125 [.agg [.int .i64 pF,.int .i64 pH,.int .i64 pG],.int .i64 room] ((.tup [.agg (hX ((jQ (E8 pF pH pG) room).1)),.int .i64 ((jQ (E8 pF pH pG) room).2.1),.int .i64 ((jQ (E8 pF pH pG) room).2.2)]),[],[]):=by
  refine aI bP RP (by simp [AY]) fun hw _=>?_
  simp only [iR,M5,aY] at hw
  repeat' with_reducible first|refine aQ (fun h=>?_) (fun h=>?_)|refine bB (fun h=>?_) (fun h=>?_)|refine aF (fun h=>?_) (fun h=>?_)|refine aH (fun h=>?_) (fun h=>?_)|refine bJ ?_ ?_ ?_ ?_|refine aR ?_ ?_|refine bC ?_ ?_|refine bM ?_ ?_|refine AC.viewAll ?_ ?_ ?_|refine P0 (qB) ?_ ?_ ?_|refine F2 (qB) ?_ ?_ ?_|refine F7 (qB) ?_ ?_|refine P0 (xS) ?_ ?_ ?_|refine F2 (xS) ?_ ?_ ?_|refine F7 (xS) ?_ ?_|refine P0 (Ku) ?_ ?_ ?_|refine F2 (Ku) ?_ ?_ ?_|refine F7 (Ku) ?_ ?_|simp -implicitDefEqProofs only [AY,qA,cS,cW,aJ,aP,qU,D1,D4,D5,D3,D0,D6,reduceIte,reduceCtorEq,hX, *]
  all_goals first
    | (simp; done)
    | exact bE
    | exact bE.symm
    | grind [aY,bL,bI,jQ,oU,cT,cD]

def BG:AFn:=⟨8,(.seq (.reg [o1 3 (.alloc 25 [(.int .i64 0),(.int .i64 0),(.int .i64 0)]),o1 4 (.mv (ci 0)),o1 5 (.mv (ci 0))]) (.seq (.reg [o1 6 (.ld 3 true 1),o1 7 (.mv 0),o2 (.st 3 3 6),o1 4 (.mv (ci 0)),o1 5 (.mv 7)]) .ret)),[(3,some (3,true)),(4,none),(5,none)]⟩
theorem SB:xf D8 187=some BG:=by kernel_rfl
theorem Kv {pF pH:Int} {pG r:Int}  : cX D8 187 [.int .i64 r,.pv [.int .i64 pF,.int .i64 pH,.int .i64 pG]] ((.tup [.agg (hX (((((E8 pF pH pG),0,r):Word×Int×Int)).1)),.int .i64 (((((E8 pF pH pG),0,r):Word×Int×Int)).2.1),.int .i64 (((((E8 pF pH pG),0,r):Word×Int×Int)).2.2)]),[],[]):=by
  refine aI bP SB (by simp [BG]) fun hw _=>?_
  simp only [iR,M5,aY] at hw
  repeat' with_reducible first|refine aQ (fun h=>?_) (fun h=>?_)|refine bB (fun h=>?_) (fun h=>?_)|refine aF (fun h=>?_) (fun h=>?_)|refine aH (fun h=>?_) (fun h=>?_)|refine bJ ?_ ?_ ?_ ?_|refine aR ?_ ?_|refine bC ?_ ?_|refine bM ?_ ?_|simp -implicitDefEqProofs only [BG,qA,cS,cW,aJ,aP,qU,D1,D4,D5,D3,D0,D6,reduceIte,reduceCtorEq,hX, *]
  all_goals first
    | (simp; done)
    | exact bE
    | exact bE.symm
    | grind [aY,bL,bI]

def AZ:AFn:=⟨45,(.seq (.reg [o1 2 (.box 25 0),o1 4 (.alloc 25 [(.int .i64 0),(.int .i64 0),(.int .i64 0)]),o1 5 (.mv (ci 0)),o1 6 (.mv (ci 0))]) (.seq (.reg [o1 9 (.mkfn (.func 187) [] [2]),o1 7 (.mv 9)]) (.seq (.block 0 (.seq (.reg [o1 11 (.ld 3 true 2),o1 12 (.mv 1),o1 13 (.call 185 [11,12]),o1 10 (.mv 13)]) (.cond 10 (.seq (.reg [o1 14 (.mv 7),o1 15 (.callv 14 [(ci 7)]),o1 16 (.ext 15 0),o1 17 (.ext 15 1),o1 18 (.ext 15 2),o2 (.st 3 4 16),o1 5 (.mv 17),o1 6 (.mv 18)]) .ret) (.seq (.reg [o1 20 (.ld 3 true 2),o1 21 (.call 97 [20]),o1 22 (.bin .gtr 21 (ci 0)),o1 19 (.mv 22)]) (.cond 19 (.seq (.reg [o1 23 (.faddr 0 2),o1 24 (.ld 1 false 23),o1 8 (.mv 24)]) (.seq (.reg [o1 25 (.faddr 0 2),o1 26 (.ld 1 false 25),o1 27 (.bin .add 26 (ci 1)),o1 28 (.faddr 0 2),o2 (.st 1 28 27)]) (.seq (.reg [o1 29 (.ld 3 true 2),o1 30 (.mv 8),o2 (.st 3 4 29),o1 5 (.mv 30),o1 6 (.mv (ci 1))]) .ret))) (.seq (.reg [o1 32 (.faddr 2 2),o1 33 (.ld 1 false 32),o1 34 (.bin .eql 33 (ci 1)),o1 31 (.mv 34)]) (.cond 31 (.seq (.reg [o1 35 (.mv 7),o1 36 (.callv 35 [(ci 6)]),o1 37 (.ext 36 0),o1 38 (.ext 36 1),o1 39 (.ext 36 2),o2 (.st 3 4 37),o1 5 (.mv 38),o1 6 (.mv 39)]) .ret) .skip))))))) (.seq (.reg [o1 40 (.mv 7),o1 41 (.callv 40 [(ci 4)]),o1 42 (.ext 41 0),o1 43 (.ext 41 1),o1 44 (.ext 41 2),o2 (.st 3 4 42),o1 5 (.mv 43),o1 6 (.mv 44)]) .ret)))),[(4,some (3,true)),(5,none),(6,none)]⟩
theorem RQ:xf D8 126=some AZ:=by kernel_rfl
theorem xR {pF pH:Int} {pG room:Int}  : cX D8 126 [.agg [.int .i64 pF,.int .i64 pH,.int .i64 pG],.int .i64 room] ((.tup [.agg (hX ((kG (E8 pF pH pG) room).1)),.int .i64 ((kG (E8 pF pH pG) room).2.1),.int .i64 ((kG (E8 pF pH pG) room).2.2)]),[],[]):=by
  refine aI bP RQ (by simp [AZ]) fun hw _=>?_
  simp only [iR,M5,aY] at hw
  repeat' with_reducible first|refine aQ (fun h=>?_) (fun h=>?_)|refine bB (fun h=>?_) (fun h=>?_)|refine aF (fun h=>?_) (fun h=>?_)|refine aH (fun h=>?_) (fun h=>?_)|refine bJ ?_ ?_ ?_ ?_|refine aR ?_ ?_|refine bC ?_ ?_|refine bM ?_ ?_|refine AC.viewAll ?_ ?_ ?_|refine P0 (qB) ?_ ?_ ?_|refine F2 (qB) ?_ ?_ ?_|refine F7 (qB) ?_ ?_|refine P0 (rQ) ?_ ?_ ?_|refine F2 (rQ) ?_ ?_ ?_|refine F7 (rQ) ?_ ?_|refine P0 (Kv) ?_ ?_ ?_|refine F2 (Kv) ?_ ?_ ?_|refine F7 (Kv) ?_ ?_|simp -implicitDefEqProofs only [AZ,qA,cS,cW,aJ,aP,qU,D1,D4,D5,D3,D0,D6,reduceIte,reduceCtorEq,hX, *]
  all_goals first
    | (simp; done)
    | exact bE
    | exact bE.symm
    | grind [aY,bL,bI,kG,oU,cT,cD,iN]

def UW:AFn:=⟨28,(.seq (.reg [o1 2 (.box 25 0),o1 4 (.mv (ci 0)),o1 5 (.mv (ci 0))]) (.seq (.reg [o1 13 (.ld 3 true 2),o1 14 (.mv 1),o1 15 (.call 125 [13,14]),o1 12 (.mv 15),o1 16 (.ext 12 0),o1 17 (.ext 12 1),o1 18 (.ext 12 2),o1 6 (.alloc 25 [(.int .i64 0),(.int .i64 0),(.int .i64 0)]),o2 (.st 3 6 16),o1 7 (.mv 17),o1 8 (.mv 18)]) (.seq (.reg [o1 20 (.ld 3 true 2),o1 21 (.mv 1),o1 22 (.call 126 [20,21]),o1 19 (.mv 22),o1 23 (.ext 19 0),o1 24 (.ext 19 1),o1 25 (.ext 19 2),o1 9 (.alloc 25 [(.int .i64 0),(.int .i64 0),(.int .i64 0)]),o2 (.st 3 9 23),o1 10 (.mv 24),o1 11 (.mv 25)]) (.seq (.reg [o1 26 (.mv 8),o1 27 (.mv 11),o1 4 (.mv 26),o1 5 (.mv 27)]) .ret)))),[(4,none),(5,none)]⟩
theorem ZA:xf D8 74=some UW:=by kernel_rfl
theorem rO {pF pH:Int} {pG room:Int}  : cX D8 74 [.agg [.int .i64 pF,.int .i64 pH,.int .i64 pG],.int .i64 room] ((.tup [.int .i64 ((tH (E8 pF pH pG) room).1),.int .i64 ((tH (E8 pF pH pG) room).2)]),[],[]):=by
  refine aI bP ZA (by simp [UW]) fun hw _=>?_
  simp only [iR,M5,aY] at hw
  repeat' with_reducible first|refine aQ (fun h=>?_) (fun h=>?_)|refine bB (fun h=>?_) (fun h=>?_)|refine aF (fun h=>?_) (fun h=>?_)|refine aH (fun h=>?_) (fun h=>?_)|refine bJ ?_ ?_ ?_ ?_|refine aR ?_ ?_|refine bC ?_ ?_|refine bM ?_ ?_|refine P0 (xQ) ?_ ?_ ?_|refine F2 (xQ) ?_ ?_ ?_|refine F7 (xQ) ?_ ?_|refine P0 (xR) ?_ ?_ ?_|refine F2 (xR) ?_ ?_ ?_|refine F7 (xR) ?_ ?_|simp -implicitDefEqProofs only [UW,qA,cS,cW,aJ,aP,qU,D1,D4,D5,D3,D0,D6,reduceIte,reduceCtorEq,hX, *]
  all_goals first
    | (simp; done)
    | exact bE
    | exact bE.symm
    | grind [aY,bL,bI,tH]

def CL:AFn:=⟨38,(.seq (.reg [o1 3 (.box 25 0),o1 6 (.alloc 25 [(.int .i64 0),(.int .i64 0),(.int .i64 0)]),o1 7 (.mv (.const (.bool false)))]) (.seq (.reg [o1 9 (.mv 2),o1 10 (.faddr 1 3),o1 11 (.ld 1 false 10),o1 12 (.build [(.int .i64 0),(.int .i64 0),(.int .i64 0)] [(0,1,9),(1,1,11),(2,1,(ci 0))]),o1 8 (.alloc 25 [(.int .i64 0),(.int .i64 0),(.int .i64 0)]),o2 (.st 3 8 12)]) (.seq (.seq (.reg [o1 13 (.ld 3 true 3),o1 14 (.ld 3 true 8),o1 15 (.eqs true [(.int .i64),(.int .i64),(.int .i64)] 13 14),o1 16 (.mv 15),o4 17 (.ld 3 true 3) 16,o4 18 (.mv 1) 16,o4 19 (.call 185 [17,18]) 16,o1 20 (.pick 16 (.const (.bool true)) 19),o1 21 (.mv 20),o4 22 (.ld 3 true 3) 21,o4 23 (.mv 1) 21,o4 24 (.call 186 [22,23]) 21,o4 25 (.not 24) 21,o1 26 (.pick 21 (.const (.bool true)) 25),o1 27 (.mv 26),o4 28 (.ld 3 true 3) 27,o4 29 (.call 97 [28]) 27,o4 30 (.bin .eql 29 (ci 0)) 27,o1 31 (.pick 27 (.const (.bool true)) 30)]) (.cond 31 (.seq (.reg [o1 32 (.ld 3 true 3),o2 (.st 3 6 32),o1 7 (.mv (.const (.bool false)))]) .ret) .skip)) (.seq (.reg [o1 33 (.faddr 0 3),o1 34 (.ld 1 false 33),o1 35 (.bin .add 34 (ci 1)),o1 36 (.faddr 0 3),o2 (.st 1 36 35)]) (.seq (.reg [o1 37 (.ld 3 true 3),o2 (.st 3 6 37),o1 7 (.mv (.const (.bool true)))]) .ret))))),[(6,some (3,true)),(7,none)]⟩
theorem TE:xf D8 259=some CL:=by kernel_rfl
theorem Kz {pF pH:Int} {pG room head:Int}  : cX D8 259 [.agg [.int .i64 pF,.int .i64 pH,.int .i64 pG],.int .i64 room,.int .i64 head] ((.tup [.agg (hX ((rJ (E8 pF pH pG) room head).1)),.bool ((rJ (E8 pF pH pG) room head).2)]),[],[]):=by
  refine aI bP TE (by simp [CL]) fun hw _=>?_
  simp only [iR,M5,aY] at hw
  repeat' with_reducible first|refine aQ (fun h=>?_) (fun h=>?_)|refine bB (fun h=>?_) (fun h=>?_)|refine aF (fun h=>?_) (fun h=>?_)|refine aH (fun h=>?_) (fun h=>?_)|refine bJ ?_ ?_ ?_ ?_|refine aR ?_ ?_|refine bC ?_ ?_|refine bM ?_ ?_|refine P0 (qB) ?_ ?_ ?_|refine F2 (qB) ?_ ?_ ?_|refine F7 (qB) ?_ ?_|refine P0 (xS) ?_ ?_ ?_|refine F2 (xS) ?_ ?_ ?_|refine F7 (xS) ?_ ?_|refine P0 (rQ) ?_ ?_ ?_|refine F2 (rQ) ?_ ?_ ?_|refine F7 (rQ) ?_ ?_|simp -implicitDefEqProofs only [CL,qA,cS,cW,aJ,aP,qU,D1,D4,D5,D3,D0,D6,reduceIte,reduceCtorEq,hX, *]
  all_goals first
    | (simp; done)
    | exact bE
    | exact bE.symm
    | grind [aY,bL,bI,rJ,oU,cT,cD,iN]

def DA:AFn:=⟨17,(.seq (.reg [o1 2 (.box 25 0),o1 4 (.alloc 25 [(.int .i64 0),(.int .i64 0),(.int .i64 0)])]) (.seq (.seq (.reg [o1 5 (.mv 1),o1 6 (.bin .eql 5 (ci 1)),o1 7 (.mv 6),o4 8 (.mv 1) 7,o4 9 (.bin .eql 8 (ci 2)) 7,o1 10 (.pick 7 (.const (.bool true)) 9)]) (.cond 10 (.reg [o1 11 (.faddr 2 2),o1 12 (.ld 1 false 11),o1 13 (.mv 1),o1 14 (.mx 12 13),o1 15 (.faddr 2 2),o2 (.st 1 15 14)]) .skip)) (.seq (.reg [o1 16 (.ld 3 true 2),o2 (.st 3 4 16)]) .ret))),[(4,some (3,true))]⟩
theorem TS:xf D8 277=some DA:=by kernel_rfl
theorem Lc {pF pH:Int} {pG mode:Int}  : cX D8 277 [.agg [.int .i64 pF,.int .i64 pH,.int .i64 pG],.int .i64 mode] ((.agg (hX (Db (E8 pF pH pG) mode))),[],[]):=by
  refine aI bP TS (by simp [DA]) fun hw _=>?_
  simp only [iR,M5,aY] at hw
  repeat' with_reducible first|refine aQ (fun h=>?_) (fun h=>?_)|refine bB (fun h=>?_) (fun h=>?_)|refine aF (fun h=>?_) (fun h=>?_)|refine aH (fun h=>?_) (fun h=>?_)|refine bJ ?_ ?_ ?_ ?_|refine aR ?_ ?_|refine bC ?_ ?_|refine bM ?_ ?_|simp -implicitDefEqProofs only [DA,qA,cS,cW,aJ,aP,qU,D1,D4,D5,D3,D0,D6,reduceIte,reduceCtorEq,hX, *]
  all_goals first
    | (simp; done)
    | exact bE
    | exact bE.symm
    | grind [aY,bL,bI,Db]

def UX:AFn:=⟨15,(.seq (.reg [o1 2 (.mv (ci 0))]) (.seq (.seq (.reg [o1 3 (.mv 0)]) (.block 0 (.seq (.seq (.reg [o1 5 (.bin .eql 3 (ci 1)),o1 4 (.mv 5)]) (.cond 4 .skip (.seq (.reg [o1 6 (.bin .eql 3 (ci 2)),o1 4 (.mv 6)]) (.cond 4 .skip (.reg [o1 7 (.bin .eql 3 (ci 3)),o1 4 (.mv 7)]))))) (.cond 4 (.seq (.reg [o1 2 (.mv (ci 1))]) .ret) (.seq (.seq (.reg [o1 9 (.bin .eql 3 (ci 4)),o1 8 (.mv 9)]) (.cond 8 .skip (.seq (.reg [o1 10 (.bin .eql 3 (ci 5)),o1 8 (.mv 10)]) (.cond 8 .skip (.reg [o1 11 (.bin .eql 3 (ci 6)),o1 8 (.mv 11)]))))) (.cond 8 (.seq (.reg [o1 2 (.mv (ci 2))]) .ret) (.seq (.seq (.reg [o1 13 (.bin .eql 3 (ci 7)),o1 12 (.mv 13)]) (.cond 12 .skip (.reg [o1 14 (.bin .eql 3 (ci 8)),o1 12 (.mv 14)]))) (.cond 12 (.seq (.reg [o1 2 (.mv (ci 3))]) .ret) .skip)))))))) (.seq (.reg [o1 2 (.mv (ci 0))]) .ret))),[(2,none)]⟩
theorem ZB:xf D8 75=some UX:=by kernel_rfl
theorem gI {k:Int}  : cX D8 75 [.int .i64 k] ((.int .i64 (kJ k)),[],[]):=by
  refine aI bP ZB (by simp [UX]) fun hw _=>?_
  simp only [iR,M5,aY] at hw
  repeat' with_reducible first|refine aQ (fun h=>?_) (fun h=>?_)|refine bB (fun h=>?_) (fun h=>?_)|refine aF (fun h=>?_) (fun h=>?_)|refine aH (fun h=>?_) (fun h=>?_)|refine bJ ?_ ?_ ?_ ?_|refine aR ?_ ?_|refine bC ?_ ?_|refine bM ?_ ?_|simp -implicitDefEqProofs only [UX,qA,cS,cW,aJ,aP,qU,D1,D4,D5,D3,D0,D6,reduceIte,reduceCtorEq, *]
  all_goals first
    | (simp; done)
    | exact bE
    | exact bE.symm
    | grind [aY,bL,bI,kJ]

def UT:AFn:=⟨6,(.seq (.reg [o1 2 (.mv (.const (.bool false)))]) (.seq (.reg [o1 3 (.mv 0),o1 4 (.call 75 [3]),o1 5 (.bin .gtr 4 (ci 0)),o1 2 (.mv 5)]) .ret)),[(2,none)]⟩
theorem YW:xf D8 65=some UT:=by kernel_rfl
theorem lQ {k:Int}  : cX D8 65 [.int .i64 k] ((.bool (lI k)),[],[]):=by
  refine aI bP YW (by simp [UT]) fun hw _=>?_
  simp only [iR,M5,aY] at hw
  repeat' with_reducible first|refine aQ (fun h=>?_) (fun h=>?_)|refine bB (fun h=>?_) (fun h=>?_)|refine aF (fun h=>?_) (fun h=>?_)|refine aH (fun h=>?_) (fun h=>?_)|refine bJ ?_ ?_ ?_ ?_|refine aR ?_ ?_|refine bC ?_ ?_|refine bM ?_ ?_|refine P0 (gI) ?_ ?_ ?_|refine F2 (gI) ?_ ?_ ?_|refine F7 (gI) ?_ ?_|simp -implicitDefEqProofs only [UT,qA,cS,cW,aJ,aP,qU,D1,D4,D5,D3,D0,D6,reduceIte,reduceCtorEq, *]
  all_goals first
    | (simp; done)
    | exact bE
    | exact bE.symm
    | grind [aY,bL,bI,lI]

def AT:AFn:=⟨9,(.seq (.reg [o1 2 (.mv (.const (.bool false)))]) (.seq (.reg [o1 3 (.mv 0),o1 4 (.bin .eql 3 (ci 3)),o1 5 (.mv 4),o4 6 (.mv 0) 5,o4 7 (.bin .eql 6 (ci 6)) 5,o1 8 (.pick 5 (.const (.bool true)) 7),o1 2 (.mv 8)]) .ret)),[(2,none)]⟩
theorem RK:xf D8 104=some AT:=by kernel_rfl
theorem pX {k:Int}  : cX D8 104 [.int .i64 k] ((.bool (iE k)),[],[]):=by
  refine aI bP RK (by simp [AT]) fun hw _=>?_
  simp only [iR,M5,aY] at hw
  repeat' with_reducible first|refine aQ (fun h=>?_) (fun h=>?_)|refine bB (fun h=>?_) (fun h=>?_)|refine aF (fun h=>?_) (fun h=>?_)|refine aH (fun h=>?_) (fun h=>?_)|refine bJ ?_ ?_ ?_ ?_|refine aR ?_ ?_|refine bC ?_ ?_|refine bM ?_ ?_|simp -implicitDefEqProofs only [AT,qA,cS,cW,aJ,aP,qU,D1,D4,D5,D3,D0,D6,reduceIte,reduceCtorEq, *]
  all_goals first
    | (simp; done)
    | exact bE
    | exact bE.symm
    | grind [aY,bL,bI,iE]

end Go.Sak
