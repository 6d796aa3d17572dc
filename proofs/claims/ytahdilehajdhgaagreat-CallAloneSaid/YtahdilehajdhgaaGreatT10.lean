/- Part T10 of the proofs about the program: K1. Conditions: none. -/
import Derived.Test.YtahdilehajdhgaaGreatT04
import Derived.Test.YtahdilehajdhgaaGreatProg
import Derived.KernelRfl
open Go.Sak.ACK renaming of→F8
open Go.Sak.ACV renaming of→F3
open Go.Sak.AV renaming wf→M6
open List renaming reduceReplicate→D2
open Nat renaming reduceAdd→D5,reduceEqDiff→D1,reduceLeDiff→D4,reduceMul→D7,reduceSub→D6
open Go.Proofs.Tryz renaming prog→D9
open Go.Sak.Word renaming mk→E9
namespace Go.Sak
open Go Go.RowKit Go.Proofs
set_option linter.unusedVariables false
set_option linter.unusedSimpArgs false
set_option maxRecDepth 10000
set_option maxHeartbeats 8000000
theorem bP:Tryz.prog.follows .mixedOrders=true:=by kernel_rfl
def VJ:AFn:=⟨31,(.seq (.reg [o1 1 (.box 25 0),o1 2 (.mv (ci 0))]) (.seq (.block 0 (.seq (.reg [o1 4 (.ld 3 true 1),o1 5 (.build [(.int .i64 0),(.int .i64 0),(.int .i64 0)] []),o1 6 (.eqs false [(.int .i64),(.int .i64),(.int .i64)] 4 5),o1 7 (.mv 6),o4 8 (.faddr 1 1) 7,o4 9 (.ld 1 false 8) 7,o4 10 (.faddr 0 1) 7,o4 11 (.ld 1 false 10) 7,o4 12 (.bin .leq 9 11) 7,o1 13 (.pick 7 (.const (.bool true)) 12),o1 3 (.mv 13)]) (.cond 3 (.seq (.reg [o1 2 (.mv (ci 0))]) .ret) (.seq (.reg [o1 15 (.faddr 0 1),o1 16 (.ld 1 false 15),o1 17 (.bin .lss 16 (ci 0)),o1 18 (.mv 17),o3 19 (.faddr 1 1) 18,o3 20 (.ld 1 false 19) 18,o3 21 (.faddr 0 1) 18,o3 22 (.ld 1 false 21) 18,o3 23 (.bin .add (ci 9223372036854775807) 22) 18,o3 24 (.bin .gtr 20 23) 18,o1 25 (.pick 18 24 (.const (.bool false))),o1 14 (.mv 25)]) (.cond 14 (.seq (.reg [o1 2 (.mv (ci 9223372036854775807))]) .ret) .skip))))) (.seq (.reg [o1 26 (.faddr 1 1),o1 27 (.ld 1 false 26),o1 28 (.faddr 0 1),o1 29 (.ld 1 false 28),o1 30 (.bin .sub 27 29),o1 2 (.mv 30)]) .ret))),[(2,none)]⟩
theorem ZO:xf D9 97=some VJ:=by kernel_rfl
theorem rR {pG pI pH:Int}  : cX D9 97 [.agg [.int .i64 pG,.int .i64 pI,.int .i64 pH]] ((.int .i64 (iO (E9 pG pI pH))),[],[]):=by
  refine aI bP ZO (by simp [VJ]) fun hw _=>?_
  simp only [iS,M6,aY] at hw
  repeat' with_reducible first|refine aQ (fun h=>?_) (fun h=>?_)|refine bB (fun h=>?_) (fun h=>?_)|refine aF (fun h=>?_) (fun h=>?_)|refine aH (fun h=>?_) (fun h=>?_)|refine bJ ?_ ?_ ?_ ?_|refine aR ?_ ?_|refine bC ?_ ?_|refine bM ?_ ?_|simp -implicitDefEqProofs only [VJ,qA,cS,cW,aJ,aP,qU,D2,D5,D6,D4,D1,D7,reduceIte,reduceCtorEq, *]
  all_goals first
    | (simp; done)
    | exact bE
    | exact bE.symm
    | grind [aY,bL,bI,iO]

def BG:AFn:=⟨9,(.seq (.reg [o1 2 (.box 25 0),o1 4 (.mv (.const (.bool false)))]) (.seq (.reg [o1 5 (.ld 3 true 2),o1 6 (.call 97 [5]),o1 7 (.mv 1),o1 8 (.bin .geq 6 7),o1 4 (.mv 8)]) .ret)),[(4,none)]⟩
theorem SB:xf D9 186=some BG:=by kernel_rfl
theorem xT {pG pI:Int} {pH room:Int}  : cX D9 186 [.agg [.int .i64 pG,.int .i64 pI,.int .i64 pH],.int .i64 room] ((.bool (oQ (E9 pG pI pH) room)),[],[]):=by
  refine aI bP SB (by simp [BG]) fun hw _=>?_
  simp only [iS,M6,aY] at hw
  repeat' with_reducible first|refine aQ (fun h=>?_) (fun h=>?_)|refine bB (fun h=>?_) (fun h=>?_)|refine aF (fun h=>?_) (fun h=>?_)|refine aH (fun h=>?_) (fun h=>?_)|refine bJ ?_ ?_ ?_ ?_|refine aR ?_ ?_|refine bC ?_ ?_|refine bM ?_ ?_|refine P0 (rR) ?_ ?_ ?_|refine F3 (rR) ?_ ?_ ?_|refine F8 (rR) ?_ ?_|simp -implicitDefEqProofs only [BG,qA,cS,cW,aJ,aP,qU,D2,D5,D6,D4,D1,D7,reduceIte,reduceCtorEq, *]
  all_goals first
    | (simp; done)
    | exact bE
    | exact bE.symm
    | grind [aY,bL,bI,oQ]

def VI:AFn:=⟨15,(.seq (.reg [o1 6 (.mv (.const (.bool false)))]) (.seq (.reg [o1 7 (.mv 0),o1 8 (.mv 1),o1 9 (.bin .geq 7 8),o1 10 (.mv 9),o3 11 (.mv 0) 10,o3 12 (.mv 2) 10,o3 13 (.bin .leq 11 12) 10,o1 14 (.pick 10 13 (.const (.bool false))),o1 6 (.mv 14)]) .ret)),[(6,none)]⟩
theorem ZN:xf D9 96=some VI:=by kernel_rfl
theorem Wc {n low high:Int}  : cX D9 96 [.int .i64 n,.int .i64 low,.int .i64 high] ((.bool (cD n low high)),[],[]):=by
  refine aI bP ZN (by simp [VI]) fun hw _=>?_
  simp only [iS,M6,aY] at hw
  repeat' with_reducible first|refine aQ (fun h=>?_) (fun h=>?_)|refine bB (fun h=>?_) (fun h=>?_)|refine aF (fun h=>?_) (fun h=>?_)|refine aH (fun h=>?_) (fun h=>?_)|refine bJ ?_ ?_ ?_ ?_|refine aR ?_ ?_|refine bC ?_ ?_|refine bM ?_ ?_|simp -implicitDefEqProofs only [VI,qA,cS,cW,aJ,aP,qU,D2,D5,D6,D4,D1,D7,reduceIte,reduceCtorEq, *]
  all_goals first
    | (simp; done)
    | exact bE
    | exact bE.symm
    | grind [aY,bL,bI,cD]

def UO:AFn:=⟨29,(.seq (.reg [o1 2 (.box 25 0),o1 4 (.mv (.const (.bool false)))]) (.seq (.reg [o1 5 (.mv (.func 96))]) (.seq (.reg [o1 6 (.mv 5),o1 7 (.faddr 1 2),o1 8 (.ld 1 false 7),o1 9 (.faddr 0 2),o1 10 (.ld 1 false 9),o1 11 (.callv 6 [8,10,(ci 1099511627776)]),o1 12 (.mv 11),o3 13 (.faddr 0 2) 12,o3 14 (.ld 1 false 13) 12,o3 15 (.bin .geq 14 (ci 0)) 12,o1 16 (.pick 12 15 (.const (.bool false))),o1 17 (.mv 16),o3 18 (.ld 3 true 2) 17,o3 19 (.call 97 [18]) 17,o3 20 (.mv 1) 17,o3 21 (.bin .leq 19 20) 17,o1 22 (.pick 17 21 (.const (.bool false))),o1 23 (.mv 22),o3 24 (.mv 5) 23,o3 25 (.faddr 2 2) 23,o3 26 (.ld 1 false 25) 23,o3 27 (.callv 24 [26,(ci 0),(ci 2)]) 23,o1 28 (.pick 23 27 (.const (.bool false))),o1 4 (.mv 28)]) .ret))),[(4,none)]⟩
theorem YQ:xf D9 52=some UO:=by kernel_rfl
theorem Ea {pG pI:Int} {pH room:Int}  : cX D9 52 [.agg [.int .i64 pG,.int .i64 pI,.int .i64 pH],.int .i64 room] ((.bool (cT (E9 pG pI pH) room)),[],[]):=by
  refine aI bP YQ (by simp [UO]) fun hw _=>?_
  simp only [iS,M6,aY] at hw
  repeat' with_reducible first|refine aQ (fun h=>?_) (fun h=>?_)|refine bB (fun h=>?_) (fun h=>?_)|refine aF (fun h=>?_) (fun h=>?_)|refine aH (fun h=>?_) (fun h=>?_)|refine bJ ?_ ?_ ?_ ?_|refine aR ?_ ?_|refine bC ?_ ?_|refine bM ?_ ?_|refine P0 (Wc) ?_ ?_ ?_|refine F3 (Wc) ?_ ?_ ?_|refine F8 (Wc) ?_ ?_|refine P0 (rR) ?_ ?_ ?_|refine F3 (rR) ?_ ?_ ?_|refine F8 (rR) ?_ ?_|simp -implicitDefEqProofs only [UO,qA,cS,cW,aJ,aP,qU,D2,D5,D6,D4,D1,D7,reduceIte,reduceCtorEq, *]
  all_goals first
    | (simp; done)
    | exact bE
    | exact bE.symm
    | grind [aY,bL,bI,cT]

def BC:AFn:=⟨11,(.seq (.reg [o1 4 (.mv (.const (.bool false)))]) (.seq (.reg [o1 5 (.mv 0),o1 6 (.bin .geq 5 (ci 0)),o1 7 (.mv 6),o3 8 (.mv 1) 7,o3 9 (.bin .geq 8 (ci 1)) 7,o1 10 (.pick 7 9 (.const (.bool false))),o1 4 (.mv 10)]) .ret)),[(4,none)]⟩
theorem RV:xf D9 139=some BC:=by kernel_rfl
theorem Kt {p room:Int}  : cX D9 139 [.int .i64 p,.int .i64 room] ((.bool (Jm p room)),[],[]):=by
  refine aI bP RV (by simp [BC]) fun hw _=>?_
  simp only [iS,M6,aY] at hw
  repeat' with_reducible first|refine aQ (fun h=>?_) (fun h=>?_)|refine bB (fun h=>?_) (fun h=>?_)|refine aF (fun h=>?_) (fun h=>?_)|refine aH (fun h=>?_) (fun h=>?_)|refine bJ ?_ ?_ ?_ ?_|refine aR ?_ ?_|refine bC ?_ ?_|refine bM ?_ ?_|simp -implicitDefEqProofs only [BC,qA,cS,cW,aJ,aP,qU,D2,D5,D6,D4,D1,D7,reduceIte,reduceCtorEq, *]
  all_goals first
    | (simp; done)
    | exact bE
    | exact bE.symm
    | grind [aY,bL,bI,Jm]

def VK:AFn:=⟨12,(.seq (.reg [o1 4 (.mv (ci 0))]) (.seq (.seq (.reg [o1 5 (.mv 0),o1 6 (.mv 1),o1 7 (.call 139 [5,6]),o1 8 (.not 7)]) (.cond 8 (.seq (.reg [o1 4 (.mv (ci 0))]) .ret) .skip)) (.seq (.reg [o1 9 (.mv 0),o1 10 (.mv 1),o1 11 (.bin .rem 9 10),o1 4 (.mv 11)]) .ret))),[(4,none)]⟩
theorem ZP:xf D9 98=some VK:=by kernel_rfl
theorem lS {p room:Int}  : cX D9 98 [.int .i64 p,.int .i64 room] ((.int .i64 (iJ p room)),[],[]):=by
  refine aI bP ZP (by simp [VK]) fun hw _=>?_
  simp only [iS,M6,aY] at hw
  repeat' with_reducible first|refine aQ (fun h=>?_) (fun h=>?_)|refine bB (fun h=>?_) (fun h=>?_)|refine aF (fun h=>?_) (fun h=>?_)|refine aH (fun h=>?_) (fun h=>?_)|refine bJ ?_ ?_ ?_ ?_|refine aR ?_ ?_|refine bC ?_ ?_|refine bM ?_ ?_|refine P0 (Kt) ?_ ?_ ?_|refine F3 (Kt) ?_ ?_ ?_|refine F8 (Kt) ?_ ?_|simp -implicitDefEqProofs only [VK,qA,cS,cW,aJ,aP,qU,D2,D5,D6,D4,D1,D7,reduceIte,reduceCtorEq, *]
  all_goals first
    | (simp; done)
    | exact bE
    | exact bE.symm
    | grind [aY,bL,bI,iJ,Jm]

def BF:AFn:=⟨14,(.seq (.reg [o1 2 (.box 25 0),o1 4 (.mv (.const (.bool false)))]) (.seq (.reg [o1 5 (.faddr 2 2),o1 6 (.ld 1 false 5),o1 7 (.bin .eql 6 (ci 2)),o1 8 (.mv 7),o4 9 (.ld 3 true 2) 8,o4 10 (.mv 1) 8,o4 11 (.call 52 [9,10]) 8,o4 12 (.not 11) 8,o1 13 (.pick 8 (.const (.bool true)) 12),o1 4 (.mv 13)]) .ret)),[(4,none)]⟩
theorem SA:xf D9 185=some BF:=by kernel_rfl
theorem qF {pG pI:Int} {pH room:Int}  : cX D9 185 [.agg [.int .i64 pG,.int .i64 pI,.int .i64 pH],.int .i64 room] ((.bool (oV (E9 pG pI pH) room)),[],[]):=by
  refine aI bP SA (by simp [BF]) fun hw _=>?_
  simp only [iS,M6,aY] at hw
  repeat' with_reducible first|refine aQ (fun h=>?_) (fun h=>?_)|refine bB (fun h=>?_) (fun h=>?_)|refine aF (fun h=>?_) (fun h=>?_)|refine aH (fun h=>?_) (fun h=>?_)|refine bJ ?_ ?_ ?_ ?_|refine aR ?_ ?_|refine bC ?_ ?_|refine bM ?_ ?_|refine P0 (Ea) ?_ ?_ ?_|refine F3 (Ea) ?_ ?_ ?_|refine F8 (Ea) ?_ ?_|simp -implicitDefEqProofs only [BF,qA,cS,cW,aJ,aP,qU,D2,D5,D6,D4,D1,D7,reduceIte,reduceCtorEq, *]
  all_goals first
    | (simp; done)
    | exact bE
    | exact bE.symm
    | grind [aY,bL,bI,oV]

def BE:AFn:=⟨8,(.seq (.reg [o1 3 (.alloc 25 [(.int .i64 0),(.int .i64 0),(.int .i64 0)]),o1 4 (.mv (ci 0)),o1 5 (.mv (ci 0))]) (.seq (.reg [o1 6 (.ld 3 true 1),o1 7 (.mv 0),o2 (.st 3 3 6),o1 4 (.mv (ci 0)),o1 5 (.mv 7)]) .ret)),[(3,some (3,true)),(4,none),(5,none)]⟩
theorem RZ:xf D9 184=some BE:=by kernel_rfl
theorem Kv {pG pI:Int} {pH r:Int}  : cX D9 184 [.int .i64 r,.pv [.int .i64 pG,.int .i64 pI,.int .i64 pH]] ((.tup [.agg (iA (((((E9 pG pI pH),0,r):Word×Int×Int)).1)),.int .i64 (((((E9 pG pI pH),0,r):Word×Int×Int)).2.1),.int .i64 (((((E9 pG pI pH),0,r):Word×Int×Int)).2.2)]),[],[]):=by
  refine aI bP RZ (by simp [BE]) fun hw _=>?_
  simp only [iS,M6,aY] at hw
  repeat' with_reducible first|refine aQ (fun h=>?_) (fun h=>?_)|refine bB (fun h=>?_) (fun h=>?_)|refine aF (fun h=>?_) (fun h=>?_)|refine aH (fun h=>?_) (fun h=>?_)|refine bJ ?_ ?_ ?_ ?_|refine aR ?_ ?_|refine bC ?_ ?_|refine bM ?_ ?_|simp -implicitDefEqProofs only [BE,qA,cS,cW,aJ,aP,qU,D2,D5,D6,D4,D1,D7,reduceIte,reduceCtorEq,iA, *]
  all_goals first
    | (simp; done)
    | exact bE
    | exact bE.symm
    | grind [aY,bL,bI]

def AZ:AFn:=⟨50,(.seq (.reg [o1 2 (.box 25 0),o1 4 (.alloc 25 [(.int .i64 0),(.int .i64 0),(.int .i64 0)]),o1 5 (.mv (ci 0)),o1 6 (.mv (ci 0))]) (.seq (.reg [o1 9 (.mkfn (.func 184) [] [2]),o1 7 (.mv 9)]) (.seq (.block 0 (.seq (.reg [o1 11 (.ld 3 true 2),o1 12 (.mv 1),o1 13 (.call 185 [11,12]),o1 10 (.mv 13)]) (.cond 10 (.seq (.reg [o1 14 (.mv 7),o1 15 (.callv 14 [(ci 7)]),o1 16 (.ext 15 0),o1 17 (.ext 15 1),o1 18 (.ext 15 2),o2 (.st 3 4 16),o1 5 (.mv 17),o1 6 (.mv 18)]) .ret) (.seq (.reg [o1 20 (.faddr 2 2),o1 21 (.ld 1 false 20),o1 22 (.bin .eql 21 (ci 1)),o1 19 (.mv 22)]) (.cond 19 (.seq (.reg [o1 23 (.mv 7),o1 24 (.callv 23 [(ci 6)]),o1 25 (.ext 24 0),o1 26 (.ext 24 1),o1 27 (.ext 24 2),o2 (.st 3 4 25),o1 5 (.mv 26),o1 6 (.mv 27)]) .ret) (.seq (.reg [o1 29 (.ld 3 true 2),o1 30 (.mv 1),o1 31 (.call 186 [29,30]),o1 32 (.mv 31),o4 33 (.faddr 1 2) 32,o4 34 (.ld 1 false 33) 32,o4 35 (.bin .eql 34 (ci 1099511627776)) 32,o1 36 (.pick 32 (.const (.bool true)) 35),o1 28 (.mv 36)]) (.cond 28 (.seq (.reg [o1 37 (.mv 7),o1 38 (.callv 37 [(ci 2)]),o1 39 (.ext 38 0),o1 40 (.ext 38 1),o1 41 (.ext 38 2),o2 (.st 3 4 39),o1 5 (.mv 40),o1 6 (.mv 41)]) .ret) .skip))))))) (.seq (.reg [o1 42 (.faddr 1 2),o1 43 (.ld 1 false 42),o1 8 (.mv 43)]) (.seq (.reg [o1 44 (.faddr 1 2),o1 45 (.ld 1 false 44),o1 46 (.bin .add 45 (ci 1)),o1 47 (.faddr 1 2),o2 (.st 1 47 46)]) (.seq (.reg [o1 48 (.ld 3 true 2),o1 49 (.mv 8),o2 (.st 3 4 48),o1 5 (.mv 49),o1 6 (.mv (ci 1))]) .ret)))))),[(4,some (3,true)),(5,none),(6,none)]⟩
theorem RQ:xf D9 125=some AZ:=by kernel_rfl
theorem xR {pG pI:Int} {pH room:Int}  : cX D9 125 [.agg [.int .i64 pG,.int .i64 pI,.int .i64 pH],.int .i64 room] ((.tup [.agg (iA ((jR (E9 pG pI pH) room).1)),.int .i64 ((jR (E9 pG pI pH) room).2.1),.int .i64 ((jR (E9 pG pI pH) room).2.2)]),[],[]):=by
  refine aI bP RQ (by simp [AZ]) fun hw _=>?_
  simp only [iS,M6,aY] at hw
  repeat' with_reducible first|refine aQ (fun h=>?_) (fun h=>?_)|refine bB (fun h=>?_) (fun h=>?_)|refine aF (fun h=>?_) (fun h=>?_)|refine aH (fun h=>?_) (fun h=>?_)|refine bJ ?_ ?_ ?_ ?_|refine aR ?_ ?_|refine bC ?_ ?_|refine bM ?_ ?_|refine AC.viewAll ?_ ?_ ?_|refine P0 (qF) ?_ ?_ ?_|refine F3 (qF) ?_ ?_ ?_|refine F8 (qF) ?_ ?_|refine P0 (xT) ?_ ?_ ?_|refine F3 (xT) ?_ ?_ ?_|refine F8 (xT) ?_ ?_|refine P0 (Kv) ?_ ?_ ?_|refine F3 (Kv) ?_ ?_ ?_|refine F8 (Kv) ?_ ?_|simp -implicitDefEqProofs only [AZ,qA,cS,cW,aJ,aP,qU,D2,D5,D6,D4,D1,D7,reduceIte,reduceCtorEq,iA, *]
  all_goals first
    | (simp; done)
    | exact bE
    | exact bE.symm
    | grind [aY,bL,bI,jR,oV,cT,cD]

def BH:AFn:=⟨8,(.seq (.reg [o1 3 (.alloc 25 [(.int .i64 0),(.int .i64 0),(.int .i64 0)]),o1 4 (.mv (ci 0)),o1 5 (.mv (ci 0))]) (.seq (.reg [o1 6 (.ld 3 true 1),o1 7 (.mv 0),o2 (.st 3 3 6),o1 4 (.mv (ci 0)),o1 5 (.mv 7)]) .ret)),[(3,some (3,true)),(4,none),(5,none)]⟩
theorem SC:xf D9 187=some BH:=by kernel_rfl
theorem Kw {pG pI:Int} {pH r:Int}  : cX D9 187 [.int .i64 r,.pv [.int .i64 pG,.int .i64 pI,.int .i64 pH]] ((.tup [.agg (iA (((((E9 pG pI pH),0,r):Word×Int×Int)).1)),.int .i64 (((((E9 pG pI pH),0,r):Word×Int×Int)).2.1),.int .i64 (((((E9 pG pI pH),0,r):Word×Int×Int)).2.2)]),[],[]):=by
  refine aI bP SC (by simp [BH]) fun hw _=>?_
  simp only [iS,M6,aY] at hw
  repeat' with_reducible first|refine aQ (fun h=>?_) (fun h=>?_)|refine bB (fun h=>?_) (fun h=>?_)|refine aF (fun h=>?_) (fun h=>?_)|refine aH (fun h=>?_) (fun h=>?_)|refine bJ ?_ ?_ ?_ ?_|refine aR ?_ ?_|refine bC ?_ ?_|refine bM ?_ ?_|simp -implicitDefEqProofs only [BH,qA,cS,cW,aJ,aP,qU,D2,D5,D6,D4,D1,D7,reduceIte,reduceCtorEq,iA, *]
  all_goals first
    | (simp; done)
    | exact bE
    | exact bE.symm
    | grind [aY,bL,bI]

def BA:AFn:=⟨45,(.seq (.reg [o1 2 (.box 25 0),o1 4 (.alloc 25 [(.int .i64 0),(.int .i64 0),(.int .i64 0)]),o1 5 (.mv (ci 0)),o1 6 (.mv (ci 0))]) (.seq (.reg [o1 9 (.mkfn (.func 187) [] [2]),o1 7 (.mv 9)]) (.seq (.block 0 (.seq (.reg [o1 11 (.ld 3 true 2),o1 12 (.mv 1),o1 13 (.call 185 [11,12]),o1 10 (.mv 13)]) (.cond 10 (.seq (.reg [o1 14 (.mv 7),o1 15 (.callv 14 [(ci 7)]),o1 16 (.ext 15 0),o1 17 (.ext 15 1),o1 18 (.ext 15 2),o2 (.st 3 4 16),o1 5 (.mv 17),o1 6 (.mv 18)]) .ret) (.seq (.reg [o1 20 (.ld 3 true 2),o1 21 (.call 97 [20]),o1 22 (.bin .gtr 21 (ci 0)),o1 19 (.mv 22)]) (.cond 19 (.seq (.reg [o1 23 (.faddr 0 2),o1 24 (.ld 1 false 23),o1 8 (.mv 24)]) (.seq (.reg [o1 25 (.faddr 0 2),o1 26 (.ld 1 false 25),o1 27 (.bin .add 26 (ci 1)),o1 28 (.faddr 0 2),o2 (.st 1 28 27)]) (.seq (.reg [o1 29 (.ld 3 true 2),o1 30 (.mv 8),o2 (.st 3 4 29),o1 5 (.mv 30),o1 6 (.mv (ci 1))]) .ret))) (.seq (.reg [o1 32 (.faddr 2 2),o1 33 (.ld 1 false 32),o1 34 (.bin .eql 33 (ci 1)),o1 31 (.mv 34)]) (.cond 31 (.seq (.reg [o1 35 (.mv 7),o1 36 (.callv 35 [(ci 6)]),o1 37 (.ext 36 0),o1 38 (.ext 36 1),o1 39 (.ext 36 2),o2 (.st 3 4 37),o1 5 (.mv 38),o1 6 (.mv 39)]) .ret) .skip))))))) (.seq (.reg [o1 40 (.mv 7),o1 41 (.callv 40 [(ci 4)]),o1 42 (.ext 41 0),o1 43 (.ext 41 1),o1 44 (.ext 41 2),o2 (.st 3 4 42),o1 5 (.mv 43),o1 6 (.mv 44)]) .ret)))),[(4,some (3,true)),(5,none),(6,none)]⟩
theorem RR:xf D9 126=some BA:=by kernel_rfl
theorem xS {pG pI:Int} {pH room:Int}  : cX D9 126 [.agg [.int .i64 pG,.int .i64 pI,.int .i64 pH],.int .i64 room] ((.tup [.agg (iA ((kH (E9 pG pI pH) room).1)),.int .i64 ((kH (E9 pG pI pH) room).2.1),.int .i64 ((kH (E9 pG pI pH) room).2.2)]),[],[]):=by
  refine aI bP RR (by simp [BA]) fun hw _=>?_
  simp only [iS,M6,aY] at hw
  repeat' with_reducible first|refine aQ (fun h=>?_) (fun h=>?_)|refine bB (fun h=>?_) (fun h=>?_)|refine aF (fun h=>?_) (fun h=>?_)|refine aH (fun h=>?_) (fun h=>?_)|refine bJ ?_ ?_ ?_ ?_|refine aR ?_ ?_|refine bC ?_ ?_|refine bM ?_ ?_|refine AC.viewAll ?_ ?_ ?_|refine P0 (qF) ?_ ?_ ?_|refine F3 (qF) ?_ ?_ ?_|refine F8 (qF) ?_ ?_|refine P0 (rR) ?_ ?_ ?_|refine F3 (rR) ?_ ?_ ?_|refine F8 (rR) ?_ ?_|refine P0 (Kw) ?_ ?_ ?_|refine F3 (Kw) ?_ ?_ ?_|refine F8 (Kw) ?_ ?_|simp -implicitDefEqProofs only [BA,qA,cS,cW,aJ,aP,qU,D2,D5,D6,D4,D1,D7,reduceIte,reduceCtorEq,iA, *]
  all_goals first
    | (simp; done)
    | exact bE
    | exact bE.symm
    | grind [aY,bL,bI,kH,oV,cT,cD,iO]

def UX:AFn:=⟨28,(.seq (.reg [o1 2 (.box 25 0),o1 4 (.mv (ci 0)),o1 5 (.mv (ci 0))]) (.seq (.reg [o1 13 (.ld 3 true 2),o1 14 (.mv 1),o1 15 (.call 125 [13,14]),o1 12 (.mv 15),o1 16 (.ext 12 0),o1 17 (.ext 12 1),o1 18 (.ext 12 2),o1 6 (.alloc 25 [(.int .i64 0),(.int .i64 0),(.int .i64 0)]),o2 (.st 3 6 16),o1 7 (.mv 17),o1 8 (.mv 18)]) (.seq (.reg [o1 20 (.ld 3 true 2),o1 21 (.mv 1),o1 22 (.call 126 [20,21]),o1 19 (.mv 22),o1 23 (.ext 19 0),o1 24 (.ext 19 1),o1 25 (.ext 19 2),o1 9 (.alloc 25 [(.int .i64 0),(.int .i64 0),(.int .i64 0)]),o2 (.st 3 9 23),o1 10 (.mv 24),o1 11 (.mv 25)]) (.seq (.reg [o1 26 (.mv 8),o1 27 (.mv 11),o1 4 (.mv 26),o1 5 (.mv 27)]) .ret)))),[(4,none),(5,none)]⟩
theorem ZB:xf D9 74=some UX:=by kernel_rfl
theorem rP {pG pI:Int} {pH room:Int}  : cX D9 74 [.agg [.int .i64 pG,.int .i64 pI,.int .i64 pH],.int .i64 room] ((.tup [.int .i64 ((tI (E9 pG pI pH) room).1),.int .i64 ((tI (E9 pG pI pH) room).2)]),[],[]):=by
  refine aI bP ZB (by simp [UX]) fun hw _=>?_
  simp only [iS,M6,aY] at hw
  repeat' with_reducible first|refine aQ (fun h=>?_) (fun h=>?_)|refine bB (fun h=>?_) (fun h=>?_)|refine aF (fun h=>?_) (fun h=>?_)|refine aH (fun h=>?_) (fun h=>?_)|refine bJ ?_ ?_ ?_ ?_|refine aR ?_ ?_|refine bC ?_ ?_|refine bM ?_ ?_|refine P0 (xR) ?_ ?_ ?_|refine F3 (xR) ?_ ?_ ?_|refine F8 (xR) ?_ ?_|refine P0 (xS) ?_ ?_ ?_|refine F3 (xS) ?_ ?_ ?_|refine F8 (xS) ?_ ?_|simp -implicitDefEqProofs only [UX,qA,cS,cW,aJ,aP,qU,D2,D5,D6,D4,D1,D7,reduceIte,reduceCtorEq,iA, *]
  all_goals first
    | (simp; done)
    | exact bE
    | exact bE.symm
    | grind [aY,bL,bI,tI]

def CM:AFn:=⟨38,(.seq (.reg [o1 3 (.box 25 0),o1 6 (.alloc 25 [(.int .i64 0),(.int .i64 0),(.int .i64 0)]),o1 7 (.mv (.const (.bool false)))]) (.seq (.reg [o1 9 (.mv 2),o1 10 (.faddr 1 3),o1 11 (.ld 1 false 10),o1 12 (.build [(.int .i64 0),(.int .i64 0),(.int .i64 0)] [(0,1,9),(1,1,11),(2,1,(ci 0))]),o1 8 (.alloc 25 [(.int .i64 0),(.int .i64 0),(.int .i64 0)]),o2 (.st 3 8 12)]) (.seq (.seq (.reg [o1 13 (.ld 3 true 3),o1 14 (.ld 3 true 8),o1 15 (.eqs true [(.int .i64),(.int .i64),(.int .i64)] 13 14),o1 16 (.mv 15),o4 17 (.ld 3 true 3) 16,o4 18 (.mv 1) 16,o4 19 (.call 185 [17,18]) 16,o1 20 (.pick 16 (.const (.bool true)) 19),o1 21 (.mv 20),o4 22 (.ld 3 true 3) 21,o4 23 (.mv 1) 21,o4 24 (.call 186 [22,23]) 21,o4 25 (.not 24) 21,o1 26 (.pick 21 (.const (.bool true)) 25),o1 27 (.mv 26),o4 28 (.ld 3 true 3) 27,o4 29 (.call 97 [28]) 27,o4 30 (.bin .eql 29 (ci 0)) 27,o1 31 (.pick 27 (.const (.bool true)) 30)]) (.cond 31 (.seq (.reg [o1 32 (.ld 3 true 3),o2 (.st 3 6 32),o1 7 (.mv (.const (.bool false)))]) .ret) .skip)) (.seq (.reg [o1 33 (.faddr 0 3),o1 34 (.ld 1 false 33),o1 35 (.bin .add 34 (ci 1)),o1 36 (.faddr 0 3),o2 (.st 1 36 35)]) (.seq (.reg [o1 37 (.ld 3 true 3),o2 (.st 3 6 37),o1 7 (.mv (.const (.bool true)))]) .ret))))),[(6,some (3,true)),(7,none)]⟩
theorem TF:xf D9 259=some CM:=by kernel_rfl
theorem La {pG pI:Int} {pH room head:Int}  : cX D9 259 [.agg [.int .i64 pG,.int .i64 pI,.int .i64 pH],.int .i64 room,.int .i64 head] ((.tup [.agg (iA ((rK (E9 pG pI pH) room head).1)),.bool ((rK (E9 pG pI pH) room head).2)]),[],[]):=by
  refine aI bP TF (by simp [CM]) fun hw _=>?_
  simp only [iS,M6,aY] at hw
  repeat' with_reducible first|refine aQ (fun h=>?_) (fun h=>?_)|refine bB (fun h=>?_) (fun h=>?_)|refine aF (fun h=>?_) (fun h=>?_)|refine aH (fun h=>?_) (fun h=>?_)|refine bJ ?_ ?_ ?_ ?_|refine aR ?_ ?_|refine bC ?_ ?_|refine bM ?_ ?_|refine P0 (qF) ?_ ?_ ?_|refine F3 (qF) ?_ ?_ ?_|refine F8 (qF) ?_ ?_|refine P0 (xT) ?_ ?_ ?_|refine F3 (xT) ?_ ?_ ?_|refine F8 (xT) ?_ ?_|refine P0 (rR) ?_ ?_ ?_|refine F3 (rR) ?_ ?_ ?_|refine F8 (rR) ?_ ?_|simp -implicitDefEqProofs only [CM,qA,cS,cW,aJ,aP,qU,D2,D5,D6,D4,D1,D7,reduceIte,reduceCtorEq,iA, *]
  all_goals first
    | (simp; done)
    | exact bE
    | exact bE.symm
    | grind [aY,bL,bI,rK,oV,cT,cD,iO]

def DB:AFn:=⟨17,(.seq (.reg [o1 2 (.box 25 0),o1 4 (.alloc 25 [(.int .i64 0),(.int .i64 0),(.int .i64 0)])]) (.seq (.seq (.reg [o1 5 (.mv 1),o1 6 (.bin .eql 5 (ci 1)),o1 7 (.mv 6),o4 8 (.mv 1) 7,o4 9 (.bin .eql 8 (ci 2)) 7,o1 10 (.pick 7 (.const (.bool true)) 9)]) (.cond 10 (.reg [o1 11 (.faddr 2 2),o1 12 (.ld 1 false 11),o1 13 (.mv 1),o1 14 (.mx 12 13),o1 15 (.faddr 2 2),o2 (.st 1 15 14)]) .skip)) (.seq (.reg [o1 16 (.ld 3 true 2),o2 (.st 3 4 16)]) .ret))),[(4,some (3,true))]⟩
theorem TU:xf D9 277=some DB:=by kernel_rfl
theorem Ld {pG pI:Int} {pH mode:Int}  : cX D9 277 [.agg [.int .i64 pG,.int .i64 pI,.int .i64 pH],.int .i64 mode] ((.agg (iA (Dc (E9 pG pI pH) mode))),[],[]):=by
  refine aI bP TU (by simp [DB]) fun hw _=>?_
  simp only [iS,M6,aY] at hw
  repeat' with_reducible first|refine aQ (fun h=>?_) (fun h=>?_)|refine bB (fun h=>?_) (fun h=>?_)|refine aF (fun h=>?_) (fun h=>?_)|refine aH (fun h=>?_) (fun h=>?_)|refine bJ ?_ ?_ ?_ ?_|refine aR ?_ ?_|refine bC ?_ ?_|refine bM ?_ ?_|simp -implicitDefEqProofs only [DB,qA,cS,cW,aJ,aP,qU,D2,D5,D6,D4,D1,D7,reduceIte,reduceCtorEq,iA, *]
  all_goals first
    | (simp; done)
    | exact bE
    | exact bE.symm
    | grind [aY,bL,bI,Dc]

def UY:AFn:=⟨15,(.seq (.reg [o1 2 (.mv (ci 0))]) (.seq (.seq (.reg [o1 3 (.mv 0)]) (.block 0 (.seq (.seq (.reg [o1 5 (.bin .eql 3 (ci 1)),o1 4 (.mv 5)]) (.cond 4 .skip (.seq (.reg [o1 6 (.bin .eql 3 (ci 2)),o1 4 (.mv 6)]) (.cond 4 .skip (.reg [o1 7 (.bin .eql 3 (ci 3)),o1 4 (.mv 7)]))))) (.cond 4 (.seq (.reg [o1 2 (.mv (ci 1))]) .ret) (.seq (.seq (.reg [o1 9 (.bin .eql 3 (ci 4)),o1 8 (.mv 9)]) (.cond 8 .skip (.seq (.reg [o1 10 (.bin .eql 3 (ci 5)),o1 8 (.mv 10)]) (.cond 8 .skip (.reg [o1 11 (.bin .eql 3 (ci 6)),o1 8 (.mv 11)]))))) (.cond 8 (.seq (.reg [o1 2 (.mv (ci 2))]) .ret) (.seq (.seq (.reg [o1 13 (.bin .eql 3 (ci 7)),o1 12 (.mv 13)]) (.cond 12 .skip (.reg [o1 14 (.bin .eql 3 (ci 8)),o1 12 (.mv 14)]))) (.cond 12 (.seq (.reg [o1 2 (.mv (ci 3))]) .ret) .skip)))))))) (.seq (.reg [o1 2 (.mv (ci 0))]) .ret))),[(2,none)]⟩
theorem ZC:xf D9 75=some UY:=by kernel_rfl
theorem gJ {k:Int}  : cX D9 75 [.int .i64 k] ((.int .i64 (kK k)),[],[]):=by
  refine aI bP ZC (by simp [UY]) fun hw _=>?_
  simp only [iS,M6,aY] at hw
  repeat' with_reducible first|refine aQ (fun h=>?_) (fun h=>?_)|refine bB (fun h=>?_) (fun h=>?_)|refine aF (fun h=>?_) (fun h=>?_)|refine aH (fun h=>?_) (fun h=>?_)|refine bJ ?_ ?_ ?_ ?_|refine aR ?_ ?_|refine bC ?_ ?_|refine bM ?_ ?_|simp -implicitDefEqProofs only [UY,qA,cS,cW,aJ,aP,qU,D2,D5,D6,D4,D1,D7,reduceIte,reduceCtorEq, *]
  all_goals first
    | (simp; done)
    | exact bE
    | exact bE.symm
    | grind [aY,bL,bI,kK]

def UU:AFn:=⟨6,(.seq (.reg [o1 2 (.mv (.const (.bool false)))]) (.seq (.reg [o1 3 (.mv 0),o1 4 (.call 75 [3]),o1 5 (.bin .gtr 4 (ci 0)),o1 2 (.mv 5)]) .ret)),[(2,none)]⟩
theorem YX:xf D9 65=some UU:=by kernel_rfl
theorem lR {k:Int}  : cX D9 65 [.int .i64 k] ((.bool (lJ k)),[],[]):=by
  refine aI bP YX (by simp [UU]) fun hw _=>?_
  simp only [iS,M6,aY] at hw
  repeat' with_reducible first|refine aQ (fun h=>?_) (fun h=>?_)|refine bB (fun h=>?_) (fun h=>?_)|refine aF (fun h=>?_) (fun h=>?_)|refine aH (fun h=>?_) (fun h=>?_)|refine bJ ?_ ?_ ?_ ?_|refine aR ?_ ?_|refine bC ?_ ?_|refine bM ?_ ?_|refine P0 (gJ) ?_ ?_ ?_|refine F3 (gJ) ?_ ?_ ?_|refine F8 (gJ) ?_ ?_|simp -implicitDefEqProofs only [UU,qA,cS,cW,aJ,aP,qU,D2,D5,D6,D4,D1,D7,reduceIte,reduceCtorEq, *]
  all_goals first
    | (simp; done)
    | exact bE
    | exact bE.symm
    | grind [aY,bL,bI,lJ]

def AU:AFn:=⟨9,(.seq (.reg [o1 2 (.mv (.const (.bool false)))]) (.seq (.reg [o1 3 (.mv 0),o1 4 (.bin .eql 3 (ci 3)),o1 5 (.mv 4),o4 6 (.mv 0) 5,o4 7 (.bin .eql 6 (ci 6)) 5,o1 8 (.pick 5 (.const (.bool true)) 7),o1 2 (.mv 8)]) .ret)),[(2,none)]⟩
theorem RL:xf D9 104=some AU:=by kernel_rfl
theorem pY {k:Int}  : cX D9 104 [.int .i64 k] ((.bool (iF k)),[],[]):=by
  refine aI bP RL (by simp [AU]) fun hw _=>?_
  simp only [iS,M6,aY] at hw
  repeat' with_reducible first|refine aQ (fun h=>?_) (fun h=>?_)|refine bB (fun h=>?_) (fun h=>?_)|refine aF (fun h=>?_) (fun h=>?_)|refine aH (fun h=>?_) (fun h=>?_)|refine bJ ?_ ?_ ?_ ?_|refine aR ?_ ?_|refine bC ?_ ?_|refine bM ?_ ?_|simp -implicitDefEqProofs only [AU,qA,cS,cW,aJ,aP,qU,D2,D5,D6,D4,D1,D7,reduceIte,reduceCtorEq, *]
  all_goals first
    | (simp; done)
    | exact bE
    | exact bE.symm
    | grind [aY,bL,bI,iF]

end Go.Sak
