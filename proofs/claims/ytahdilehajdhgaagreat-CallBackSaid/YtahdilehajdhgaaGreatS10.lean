/- Part S10 of the proofs about the program: K1. Conditions: none. -/
import Derived.Test.YtahdilehajdhgaaGreatS03
import Derived.Test.YtahdilehajdhgaaGreatS04
import Derived.Test.YtahdilehajdhgaaGreatProg
import Derived.KernelRfl
namespace Go.Sak
open Go Go.RowKit Go.Proofs
set_option linter.unusedVariables false
set_option linter.unusedSimpArgs false
set_option maxRecDepth 10000
set_option maxHeartbeats 8000000
theorem mix:Tryz.prog.follows .mixedOrders=true:=by kernel_rfl
def F97:AFn:=⟨31,(.seq (.reg [o1 1 (.box 25 0),o1 2 (.mv (ci 0))]) (.seq (.block 0 (.seq (.reg [o1 4 (.ld 3 true 1),o1 5 (.build [(.int .i64 0),(.int .i64 0),(.int .i64 0)] []),o1 6 (.eqs false [(.int .i64),(.int .i64),(.int .i64)] 4 5),o1 7 (.mv 6),o4 8 (.faddr 1 1) 7,o4 9 (.ld 1 false 8) 7,o4 10 (.faddr 0 1) 7,o4 11 (.ld 1 false 10) 7,o4 12 (.bin .leq 9 11) 7,o1 13 (.pick 7 (.const (.bool true)) 12),o1 3 (.mv 13)]) (.cond 3 (.seq (.reg [o1 2 (.mv (ci 0))]) .ret) (.seq (.reg [o1 15 (.faddr 0 1),o1 16 (.ld 1 false 15),o1 17 (.bin .lss 16 (ci 0)),o1 18 (.mv 17),o3 19 (.faddr 1 1) 18,o3 20 (.ld 1 false 19) 18,o3 21 (.faddr 0 1) 18,o3 22 (.ld 1 false 21) 18,o3 23 (.bin .add (ci 9223372036854775807) 22) 18,o3 24 (.bin .gtr 20 23) 18,o1 25 (.pick 18 24 (.const (.bool false))),o1 14 (.mv 25)]) (.cond 14 (.seq (.reg [o1 2 (.mv (ci 9223372036854775807))]) .ret) .skip))))) (.seq (.reg [o1 26 (.faddr 1 1),o1 27 (.ld 1 false 26),o1 28 (.faddr 0 1),o1 29 (.ld 1 false 28),o1 30 (.bin .sub 27 29),o1 2 (.mv 30)]) .ret))),[(2,none)]⟩
theorem x97:xf Tryz.prog 97=some F97:=by kernel_rfl
theorem con97 {w_h w_t w_m:Int}  : Con Tryz.prog 97 [.agg [.int .i64 w_h,.int .i64 w_t,.int .i64 w_m]] ((.int .i64 (posLen (Word.mk w_h w_t w_m))),[],[]):=by
  refine mcb_of_vc mix x97 (by simp [F97]) fun hw _=>?_
  simp only [wfs,AV.wf,inR_i64] at hw
  repeat' with_reducible first|refine gTn_of (fun h=>?_) (fun h=>?_)|refine gT_of (fun h=>?_) (fun h=>?_)|refine caseTn_of (fun h=>?_) (fun h=>?_)|refine caseT_of (fun h=>?_) (fun h=>?_)|refine fin_pure ?_ ?_ ?_ ?_|refine kv_ifn ?_ ?_|refine kv_if ?_ ?_|refine k_if ?_ ?_|simp -implicitDefEqProofs only [F97,qA,doLd,doSt,splice,doEqs,qU,List.reduceReplicate,Nat.reduceAdd,Nat.reduceSub,Nat.reduceLeDiff,Nat.reduceEqDiff,Nat.reduceMul,reduceIte,reduceCtorEq, *]
  all_goals first
    | (simp; done)
    | exact idxF_any
    | exact idxF_any.symm
    | grind [inR_i64,wrap64,maxLen_eq,posLen]

def F186:AFn:=⟨9,(.seq (.reg [o1 2 (.box 25 0),o1 4 (.mv (.const (.bool false)))]) (.seq (.reg [o1 5 (.ld 3 true 2),o1 6 (.call 97 [5]),o1 7 (.mv 1),o1 8 (.bin .geq 6 7),o1 4 (.mv 8)]) .ret)),[(4,none)]⟩
theorem x186:xf Tryz.prog 186=some F186:=by kernel_rfl
def F96:AFn:=⟨15,(.seq (.reg [o1 6 (.mv (.const (.bool false)))]) (.seq (.reg [o1 7 (.mv 0),o1 8 (.mv 1),o1 9 (.bin .geq 7 8),o1 10 (.mv 9),o3 11 (.mv 0) 10,o3 12 (.mv 2) 10,o3 13 (.bin .leq 11 12) 10,o1 14 (.pick 10 13 (.const (.bool false))),o1 6 (.mv 14)]) .ret)),[(6,none)]⟩
theorem x96:xf Tryz.prog 96=some F96:=by kernel_rfl
theorem con96 {n low high:Int}  : Con Tryz.prog 96 [.int .i64 n,.int .i64 low,.int .i64 high] ((.bool (within n low high)),[],[]):=by
  refine mcb_of_vc mix x96 (by simp [F96]) fun hw _=>?_
  simp only [wfs,AV.wf,inR_i64] at hw
  repeat' with_reducible first|refine gTn_of (fun h=>?_) (fun h=>?_)|refine gT_of (fun h=>?_) (fun h=>?_)|refine caseTn_of (fun h=>?_) (fun h=>?_)|refine caseT_of (fun h=>?_) (fun h=>?_)|refine fin_pure ?_ ?_ ?_ ?_|refine kv_ifn ?_ ?_|refine kv_if ?_ ?_|refine k_if ?_ ?_|simp -implicitDefEqProofs only [F96,qA,doLd,doSt,splice,doEqs,qU,List.reduceReplicate,Nat.reduceAdd,Nat.reduceSub,Nat.reduceLeDiff,Nat.reduceEqDiff,Nat.reduceMul,reduceIte,reduceCtorEq, *]
  all_goals first
    | (simp; done)
    | exact idxF_any
    | exact idxF_any.symm
    | grind [inR_i64,wrap64,maxLen_eq,within]

def F52:AFn:=⟨29,(.seq (.reg [o1 2 (.box 25 0),o1 4 (.mv (.const (.bool false)))]) (.seq (.reg [o1 5 (.mv (.func 96))]) (.seq (.reg [o1 6 (.mv 5),o1 7 (.faddr 1 2),o1 8 (.ld 1 false 7),o1 9 (.faddr 0 2),o1 10 (.ld 1 false 9),o1 11 (.callv 6 [8,10,(ci 1099511627776)]),o1 12 (.mv 11),o3 13 (.faddr 0 2) 12,o3 14 (.ld 1 false 13) 12,o3 15 (.bin .geq 14 (ci 0)) 12,o1 16 (.pick 12 15 (.const (.bool false))),o1 17 (.mv 16),o3 18 (.ld 3 true 2) 17,o3 19 (.call 97 [18]) 17,o3 20 (.mv 1) 17,o3 21 (.bin .leq 19 20) 17,o1 22 (.pick 17 21 (.const (.bool false))),o1 23 (.mv 22),o3 24 (.mv 5) 23,o3 25 (.faddr 2 2) 23,o3 26 (.ld 1 false 25) 23,o3 27 (.callv 24 [26,(ci 0),(ci 2)]) 23,o1 28 (.pick 23 27 (.const (.bool false))),o1 4 (.mv 28)]) .ret))),[(4,none)]⟩
theorem x52:xf Tryz.prog 52=some F52:=by kernel_rfl
theorem con52 {w_h w_t:Int} {w_m room:Int}  : Con Tryz.prog 52 [.agg [.int .i64 w_h,.int .i64 w_t,.int .i64 w_m],.int .i64 room] ((.bool (posCheck (Word.mk w_h w_t w_m) room)),[],[]):=by
  refine mcb_of_vc mix x52 (by simp [F52]) fun hw _=>?_
  simp only [wfs,AV.wf,inR_i64] at hw
  repeat' with_reducible first|refine gTn_of (fun h=>?_) (fun h=>?_)|refine gT_of (fun h=>?_) (fun h=>?_)|refine caseTn_of (fun h=>?_) (fun h=>?_)|refine caseT_of (fun h=>?_) (fun h=>?_)|refine fin_pure ?_ ?_ ?_ ?_|refine kv_ifn ?_ ?_|refine kv_if ?_ ?_|refine k_if ?_ ?_|refine P0 (con96) ?_ ?_ ?_|refine ACV.of (con96) ?_ ?_ ?_|refine ACK.of (con96) ?_ ?_|refine P0 (con97) ?_ ?_ ?_|refine ACV.of (con97) ?_ ?_ ?_|refine ACK.of (con97) ?_ ?_|simp -implicitDefEqProofs only [F52,qA,doLd,doSt,splice,doEqs,qU,List.reduceReplicate,Nat.reduceAdd,Nat.reduceSub,Nat.reduceLeDiff,Nat.reduceEqDiff,Nat.reduceMul,reduceIte,reduceCtorEq, *]
  all_goals first
    | (simp; done)
    | exact idxF_any
    | exact idxF_any.symm
    | grind [inR_i64,wrap64,maxLen_eq,posCheck]

def F139:AFn:=⟨11,(.seq (.reg [o1 4 (.mv (.const (.bool false)))]) (.seq (.reg [o1 5 (.mv 0),o1 6 (.bin .geq 5 (ci 0)),o1 7 (.mv 6),o3 8 (.mv 1) 7,o3 9 (.bin .geq 8 (ci 1)) 7,o1 10 (.pick 7 9 (.const (.bool false))),o1 4 (.mv 10)]) .ret)),[(4,none)]⟩
theorem x139:xf Tryz.prog 139=some F139:=by kernel_rfl
theorem con139 {p room:Int}  : Con Tryz.prog 139 [.int .i64 p,.int .i64 room] ((.bool (posIs p room)),[],[]):=by
  refine mcb_of_vc mix x139 (by simp [F139]) fun hw _=>?_
  simp only [wfs,AV.wf,inR_i64] at hw
  repeat' with_reducible first|refine gTn_of (fun h=>?_) (fun h=>?_)|refine gT_of (fun h=>?_) (fun h=>?_)|refine caseTn_of (fun h=>?_) (fun h=>?_)|refine caseT_of (fun h=>?_) (fun h=>?_)|refine fin_pure ?_ ?_ ?_ ?_|refine kv_ifn ?_ ?_|refine kv_if ?_ ?_|refine k_if ?_ ?_|simp -implicitDefEqProofs only [F139,qA,doLd,doSt,splice,doEqs,qU,List.reduceReplicate,Nat.reduceAdd,Nat.reduceSub,Nat.reduceLeDiff,Nat.reduceEqDiff,Nat.reduceMul,reduceIte,reduceCtorEq, *]
  all_goals first
    | (simp; done)
    | exact idxF_any
    | exact idxF_any.symm
    | grind [inR_i64,wrap64,maxLen_eq,posIs]

def F98:AFn:=⟨12,(.seq (.reg [o1 4 (.mv (ci 0))]) (.seq (.seq (.reg [o1 5 (.mv 0),o1 6 (.mv 1),o1 7 (.call 139 [5,6]),o1 8 (.not 7)]) (.cond 8 (.seq (.reg [o1 4 (.mv (ci 0))]) .ret) .skip)) (.seq (.reg [o1 9 (.mv 0),o1 10 (.mv 1),o1 11 (.bin .rem 9 10),o1 4 (.mv 11)]) .ret))),[(4,none)]⟩
theorem x98:xf Tryz.prog 98=some F98:=by kernel_rfl
theorem con98 {p room:Int}  : Con Tryz.prog 98 [.int .i64 p,.int .i64 room] ((.int .i64 (posPlace p room)),[],[]):=by
  refine mcb_of_vc mix x98 (by simp [F98]) fun hw _=>?_
  simp only [wfs,AV.wf,inR_i64] at hw
  repeat' with_reducible first|refine gTn_of (fun h=>?_) (fun h=>?_)|refine gT_of (fun h=>?_) (fun h=>?_)|refine caseTn_of (fun h=>?_) (fun h=>?_)|refine caseT_of (fun h=>?_) (fun h=>?_)|refine fin_pure ?_ ?_ ?_ ?_|refine kv_ifn ?_ ?_|refine kv_if ?_ ?_|refine k_if ?_ ?_|refine P0 (con139) ?_ ?_ ?_|refine ACV.of (con139) ?_ ?_ ?_|refine ACK.of (con139) ?_ ?_|simp -implicitDefEqProofs only [F98,qA,doLd,doSt,splice,doEqs,qU,List.reduceReplicate,Nat.reduceAdd,Nat.reduceSub,Nat.reduceLeDiff,Nat.reduceEqDiff,Nat.reduceMul,reduceIte,reduceCtorEq, *]
  all_goals first
    | (simp; done)
    | exact idxF_any
    | exact idxF_any.symm
    | grind [inR_i64,wrap64,maxLen_eq,posPlace,posIs]

def F185:AFn:=⟨14,(.seq (.reg [o1 2 (.box 25 0),o1 4 (.mv (.const (.bool false)))]) (.seq (.reg [o1 5 (.faddr 2 2),o1 6 (.ld 1 false 5),o1 7 (.bin .eql 6 (ci 2)),o1 8 (.mv 7),o4 9 (.ld 3 true 2) 8,o4 10 (.mv 1) 8,o4 11 (.call 52 [9,10]) 8,o4 12 (.not 11) 8,o1 13 (.pick 8 (.const (.bool true)) 12),o1 4 (.mv 13)]) .ret)),[(4,none)]⟩
theorem x185:xf Tryz.prog 185=some F185:=by kernel_rfl
def F184:AFn:=⟨8,(.seq (.reg [o1 3 (.alloc 25 [(.int .i64 0),(.int .i64 0),(.int .i64 0)]),o1 4 (.mv (ci 0)),o1 5 (.mv (ci 0))]) (.seq (.reg [o1 6 (.ld 3 true 1),o1 7 (.mv 0),o2 (.st 3 3 6),o1 4 (.mv (ci 0)),o1 5 (.mv 7)]) .ret)),[(3,some (3,true)),(4,none),(5,none)]⟩
theorem x184:xf Tryz.prog 184=some F184:=by kernel_rfl
def F125:AFn:=⟨50,(.seq (.reg [o1 2 (.box 25 0),o1 4 (.alloc 25 [(.int .i64 0),(.int .i64 0),(.int .i64 0)]),o1 5 (.mv (ci 0)),o1 6 (.mv (ci 0))]) (.seq (.reg [o1 9 (.mkfn (.func 184) [] [2]),o1 7 (.mv 9)]) (.seq (.block 0 (.seq (.reg [o1 11 (.ld 3 true 2),o1 12 (.mv 1),o1 13 (.call 185 [11,12]),o1 10 (.mv 13)]) (.cond 10 (.seq (.reg [o1 14 (.mv 7),o1 15 (.callv 14 [(ci 7)]),o1 16 (.ext 15 0),o1 17 (.ext 15 1),o1 18 (.ext 15 2),o2 (.st 3 4 16),o1 5 (.mv 17),o1 6 (.mv 18)]) .ret) (.seq (.reg [o1 20 (.faddr 2 2),o1 21 (.ld 1 false 20),o1 22 (.bin .eql 21 (ci 1)),o1 19 (.mv 22)]) (.cond 19 (.seq (.reg [o1 23 (.mv 7),o1 24 (.callv 23 [(ci 6)]),o1 25 (.ext 24 0),o1 26 (.ext 24 1),o1 27 (.ext 24 2),o2 (.st 3 4 25),o1 5 (.mv 26),o1 6 (.mv 27)]) .ret) (.seq (.reg [o1 29 (.ld 3 true 2),o1 30 (.mv 1),o1 31 (.call 186 [29,30]),o1 32 (.mv 31),o4 33 (.faddr 1 2) 32,o4 34 (.ld 1 false 33) 32,o4 35 (.bin .eql 34 (ci 1099511627776)) 32,o1 36 (.pick 32 (.const (.bool true)) 35),o1 28 (.mv 36)]) (.cond 28 (.seq (.reg [o1 37 (.mv 7),o1 38 (.callv 37 [(ci 2)]),o1 39 (.ext 38 0),o1 40 (.ext 38 1),o1 41 (.ext 38 2),o2 (.st 3 4 39),o1 5 (.mv 40),o1 6 (.mv 41)]) .ret) .skip))))))) (.seq (.reg [o1 42 (.faddr 1 2),o1 43 (.ld 1 false 42),o1 8 (.mv 43)]) (.seq (.reg [o1 44 (.faddr 1 2),o1 45 (.ld 1 false 44),o1 46 (.bin .add 45 (ci 1)),o1 47 (.faddr 1 2),o2 (.st 1 47 46)]) (.seq (.reg [o1 48 (.ld 3 true 2),o1 49 (.mv 8),o2 (.st 3 4 48),o1 5 (.mv 49),o1 6 (.mv (ci 1))]) .ret)))))),[(4,some (3,true)),(5,none),(6,none)]⟩
theorem x125:xf Tryz.prog 125=some F125:=by kernel_rfl
def F187:AFn:=⟨8,(.seq (.reg [o1 3 (.alloc 25 [(.int .i64 0),(.int .i64 0),(.int .i64 0)]),o1 4 (.mv (ci 0)),o1 5 (.mv (ci 0))]) (.seq (.reg [o1 6 (.ld 3 true 1),o1 7 (.mv 0),o2 (.st 3 3 6),o1 4 (.mv (ci 0)),o1 5 (.mv 7)]) .ret)),[(3,some (3,true)),(4,none),(5,none)]⟩
theorem x187:xf Tryz.prog 187=some F187:=by kernel_rfl
def F126:AFn:=⟨45,(.seq (.reg [o1 2 (.box 25 0),o1 4 (.alloc 25 [(.int .i64 0),(.int .i64 0),(.int .i64 0)]),o1 5 (.mv (ci 0)),o1 6 (.mv (ci 0))]) (.seq (.reg [o1 9 (.mkfn (.func 187) [] [2]),o1 7 (.mv 9)]) (.seq (.block 0 (.seq (.reg [o1 11 (.ld 3 true 2),o1 12 (.mv 1),o1 13 (.call 185 [11,12]),o1 10 (.mv 13)]) (.cond 10 (.seq (.reg [o1 14 (.mv 7),o1 15 (.callv 14 [(ci 7)]),o1 16 (.ext 15 0),o1 17 (.ext 15 1),o1 18 (.ext 15 2),o2 (.st 3 4 16),o1 5 (.mv 17),o1 6 (.mv 18)]) .ret) (.seq (.reg [o1 20 (.ld 3 true 2),o1 21 (.call 97 [20]),o1 22 (.bin .gtr 21 (ci 0)),o1 19 (.mv 22)]) (.cond 19 (.seq (.reg [o1 23 (.faddr 0 2),o1 24 (.ld 1 false 23),o1 8 (.mv 24)]) (.seq (.reg [o1 25 (.faddr 0 2),o1 26 (.ld 1 false 25),o1 27 (.bin .add 26 (ci 1)),o1 28 (.faddr 0 2),o2 (.st 1 28 27)]) (.seq (.reg [o1 29 (.ld 3 true 2),o1 30 (.mv 8),o2 (.st 3 4 29),o1 5 (.mv 30),o1 6 (.mv (ci 1))]) .ret))) (.seq (.reg [o1 32 (.faddr 2 2),o1 33 (.ld 1 false 32),o1 34 (.bin .eql 33 (ci 1)),o1 31 (.mv 34)]) (.cond 31 (.seq (.reg [o1 35 (.mv 7),o1 36 (.callv 35 [(ci 6)]),o1 37 (.ext 36 0),o1 38 (.ext 36 1),o1 39 (.ext 36 2),o2 (.st 3 4 37),o1 5 (.mv 38),o1 6 (.mv 39)]) .ret) .skip))))))) (.seq (.reg [o1 40 (.mv 7),o1 41 (.callv 40 [(ci 4)]),o1 42 (.ext 41 0),o1 43 (.ext 41 1),o1 44 (.ext 41 2),o2 (.st 3 4 42),o1 5 (.mv 43),o1 6 (.mv 44)]) .ret)))),[(4,some (3,true)),(5,none),(6,none)]⟩
theorem x126:xf Tryz.prog 126=some F126:=by kernel_rfl
def F74:AFn:=⟨28,(.seq (.reg [o1 2 (.box 25 0),o1 4 (.mv (ci 0)),o1 5 (.mv (ci 0))]) (.seq (.reg [o1 13 (.ld 3 true 2),o1 14 (.mv 1),o1 15 (.call 125 [13,14]),o1 12 (.mv 15),o1 16 (.ext 12 0),o1 17 (.ext 12 1),o1 18 (.ext 12 2),o1 6 (.alloc 25 [(.int .i64 0),(.int .i64 0),(.int .i64 0)]),o2 (.st 3 6 16),o1 7 (.mv 17),o1 8 (.mv 18)]) (.seq (.reg [o1 20 (.ld 3 true 2),o1 21 (.mv 1),o1 22 (.call 126 [20,21]),o1 19 (.mv 22),o1 23 (.ext 19 0),o1 24 (.ext 19 1),o1 25 (.ext 19 2),o1 9 (.alloc 25 [(.int .i64 0),(.int .i64 0),(.int .i64 0)]),o2 (.st 3 9 23),o1 10 (.mv 24),o1 11 (.mv 25)]) (.seq (.reg [o1 26 (.mv 8),o1 27 (.mv 11),o1 4 (.mv 26),o1 5 (.mv 27)]) .ret)))),[(4,none),(5,none)]⟩
theorem x74:xf Tryz.prog 74=some F74:=by kernel_rfl
def F259:AFn:=⟨38,(.seq (.reg [o1 3 (.box 25 0),o1 6 (.alloc 25 [(.int .i64 0),(.int .i64 0),(.int .i64 0)]),o1 7 (.mv (.const (.bool false)))]) (.seq (.reg [o1 9 (.mv 2),o1 10 (.faddr 1 3),o1 11 (.ld 1 false 10),o1 12 (.build [(.int .i64 0),(.int .i64 0),(.int .i64 0)] [(0,1,9),(1,1,11),(2,1,(ci 0))]),o1 8 (.alloc 25 [(.int .i64 0),(.int .i64 0),(.int .i64 0)]),o2 (.st 3 8 12)]) (.seq (.seq (.reg [o1 13 (.ld 3 true 3),o1 14 (.ld 3 true 8),o1 15 (.eqs true [(.int .i64),(.int .i64),(.int .i64)] 13 14),o1 16 (.mv 15),o4 17 (.ld 3 true 3) 16,o4 18 (.mv 1) 16,o4 19 (.call 185 [17,18]) 16,o1 20 (.pick 16 (.const (.bool true)) 19),o1 21 (.mv 20),o4 22 (.ld 3 true 3) 21,o4 23 (.mv 1) 21,o4 24 (.call 186 [22,23]) 21,o4 25 (.not 24) 21,o1 26 (.pick 21 (.const (.bool true)) 25),o1 27 (.mv 26),o4 28 (.ld 3 true 3) 27,o4 29 (.call 97 [28]) 27,o4 30 (.bin .eql 29 (ci 0)) 27,o1 31 (.pick 27 (.const (.bool true)) 30)]) (.cond 31 (.seq (.reg [o1 32 (.ld 3 true 3),o2 (.st 3 6 32),o1 7 (.mv (.const (.bool false)))]) .ret) .skip)) (.seq (.reg [o1 33 (.faddr 0 3),o1 34 (.ld 1 false 33),o1 35 (.bin .add 34 (ci 1)),o1 36 (.faddr 0 3),o2 (.st 1 36 35)]) (.seq (.reg [o1 37 (.ld 3 true 3),o2 (.st 3 6 37),o1 7 (.mv (.const (.bool true)))]) .ret))))),[(6,some (3,true)),(7,none)]⟩
theorem x259:xf Tryz.prog 259=some F259:=by kernel_rfl
def F277:AFn:=⟨17,(.seq (.reg [o1 2 (.box 25 0),o1 4 (.alloc 25 [(.int .i64 0),(.int .i64 0),(.int .i64 0)])]) (.seq (.seq (.reg [o1 5 (.mv 1),o1 6 (.bin .eql 5 (ci 1)),o1 7 (.mv 6),o4 8 (.mv 1) 7,o4 9 (.bin .eql 8 (ci 2)) 7,o1 10 (.pick 7 (.const (.bool true)) 9)]) (.cond 10 (.reg [o1 11 (.faddr 2 2),o1 12 (.ld 1 false 11),o1 13 (.mv 1),o1 14 (.mx 12 13),o1 15 (.faddr 2 2),o2 (.st 1 15 14)]) .skip)) (.seq (.reg [o1 16 (.ld 3 true 2),o2 (.st 3 4 16)]) .ret))),[(4,some (3,true))]⟩
theorem x277:xf Tryz.prog 277=some F277:=by kernel_rfl
def F75:AFn:=⟨15,(.seq (.reg [o1 2 (.mv (ci 0))]) (.seq (.seq (.reg [o1 3 (.mv 0)]) (.block 0 (.seq (.seq (.reg [o1 5 (.bin .eql 3 (ci 1)),o1 4 (.mv 5)]) (.cond 4 .skip (.seq (.reg [o1 6 (.bin .eql 3 (ci 2)),o1 4 (.mv 6)]) (.cond 4 .skip (.reg [o1 7 (.bin .eql 3 (ci 3)),o1 4 (.mv 7)]))))) (.cond 4 (.seq (.reg [o1 2 (.mv (ci 1))]) .ret) (.seq (.seq (.reg [o1 9 (.bin .eql 3 (ci 4)),o1 8 (.mv 9)]) (.cond 8 .skip (.seq (.reg [o1 10 (.bin .eql 3 (ci 5)),o1 8 (.mv 10)]) (.cond 8 .skip (.reg [o1 11 (.bin .eql 3 (ci 6)),o1 8 (.mv 11)]))))) (.cond 8 (.seq (.reg [o1 2 (.mv (ci 2))]) .ret) (.seq (.seq (.reg [o1 13 (.bin .eql 3 (ci 7)),o1 12 (.mv 13)]) (.cond 12 .skip (.reg [o1 14 (.bin .eql 3 (ci 8)),o1 12 (.mv 14)]))) (.cond 12 (.seq (.reg [o1 2 (.mv (ci 3))]) .ret) .skip)))))))) (.seq (.reg [o1 2 (.mv (ci 0))]) .ret))),[(2,none)]⟩
theorem x75:xf Tryz.prog 75=some F75:=by kernel_rfl
theorem con75 {k:Int}  : Con Tryz.prog 75 [.int .i64 k] ((.int .i64 (opSide k)),[],[]):=by
  refine mcb_of_vc mix x75 (by simp [F75]) fun hw _=>?_
  simp only [wfs,AV.wf,inR_i64] at hw
  repeat' with_reducible first|refine gTn_of (fun h=>?_) (fun h=>?_)|refine gT_of (fun h=>?_) (fun h=>?_)|refine caseTn_of (fun h=>?_) (fun h=>?_)|refine caseT_of (fun h=>?_) (fun h=>?_)|refine fin_pure ?_ ?_ ?_ ?_|refine kv_ifn ?_ ?_|refine kv_if ?_ ?_|refine k_if ?_ ?_|simp -implicitDefEqProofs only [F75,qA,doLd,doSt,splice,doEqs,qU,List.reduceReplicate,Nat.reduceAdd,Nat.reduceSub,Nat.reduceLeDiff,Nat.reduceEqDiff,Nat.reduceMul,reduceIte,reduceCtorEq, *]
  all_goals first
    | (simp; done)
    | exact idxF_any
    | exact idxF_any.symm
    | grind [inR_i64,wrap64,maxLen_eq,opSide]

def F65:AFn:=⟨6,(.seq (.reg [o1 2 (.mv (.const (.bool false)))]) (.seq (.reg [o1 3 (.mv 0),o1 4 (.call 75 [3]),o1 5 (.bin .gtr 4 (ci 0)),o1 2 (.mv 5)]) .ret)),[(2,none)]⟩
theorem x65:xf Tryz.prog 65=some F65:=by kernel_rfl
theorem con65 {k:Int}  : Con Tryz.prog 65 [.int .i64 k] ((.bool (opCheck k)),[],[]):=by
  refine mcb_of_vc mix x65 (by simp [F65]) fun hw _=>?_
  simp only [wfs,AV.wf,inR_i64] at hw
  repeat' with_reducible first|refine gTn_of (fun h=>?_) (fun h=>?_)|refine gT_of (fun h=>?_) (fun h=>?_)|refine caseTn_of (fun h=>?_) (fun h=>?_)|refine caseT_of (fun h=>?_) (fun h=>?_)|refine fin_pure ?_ ?_ ?_ ?_|refine kv_ifn ?_ ?_|refine kv_if ?_ ?_|refine k_if ?_ ?_|refine P0 (con75) ?_ ?_ ?_|refine ACV.of (con75) ?_ ?_ ?_|refine ACK.of (con75) ?_ ?_|simp -implicitDefEqProofs only [F65,qA,doLd,doSt,splice,doEqs,qU,List.reduceReplicate,Nat.reduceAdd,Nat.reduceSub,Nat.reduceLeDiff,Nat.reduceEqDiff,Nat.reduceMul,reduceIte,reduceCtorEq, *]
  all_goals first
    | (simp; done)
    | exact idxF_any
    | exact idxF_any.symm
    | grind [inR_i64,wrap64,maxLen_eq,opCheck]

def F104:AFn:=⟨9,(.seq (.reg [o1 2 (.mv (.const (.bool false)))]) (.seq (.reg [o1 3 (.mv 0),o1 4 (.bin .eql 3 (ci 3)),o1 5 (.mv 4),o4 6 (.mv 0) 5,o4 7 (.bin .eql 6 (ci 6)) 5,o1 8 (.pick 5 (.const (.bool true)) 7),o1 2 (.mv 8)]) .ret)),[(2,none)]⟩
theorem x104:xf Tryz.prog 104=some F104:=by kernel_rfl
theorem con104 {k:Int}  : Con Tryz.prog 104 [.int .i64 k] ((.bool (opTimed k)),[],[]):=by
  refine mcb_of_vc mix x104 (by simp [F104]) fun hw _=>?_
  simp only [wfs,AV.wf,inR_i64] at hw
  repeat' with_reducible first|refine gTn_of (fun h=>?_) (fun h=>?_)|refine gT_of (fun h=>?_) (fun h=>?_)|refine caseTn_of (fun h=>?_) (fun h=>?_)|refine caseT_of (fun h=>?_) (fun h=>?_)|refine fin_pure ?_ ?_ ?_ ?_|refine kv_ifn ?_ ?_|refine kv_if ?_ ?_|refine k_if ?_ ?_|simp -implicitDefEqProofs only [F104,qA,doLd,doSt,splice,doEqs,qU,List.reduceReplicate,Nat.reduceAdd,Nat.reduceSub,Nat.reduceLeDiff,Nat.reduceEqDiff,Nat.reduceMul,reduceIte,reduceCtorEq, *]
  all_goals first
    | (simp; done)
    | exact idxF_any
    | exact idxF_any.symm
    | grind [inR_i64,wrap64,maxLen_eq,opTimed]

end Go.Sak
