/- Part S10 of the proofs about the program: K1. Conditions: none. -/
import Derived.Test.YtccdhjhffebpoaaGreatS03
import Derived.Test.YtccdhjhffebpoaaGreatS04
import Derived.Test.YtccdhjhffebpoaaGreatProg
import Derived.KernelRfl
namespace Go.Sak
open Go Go.RowKit Go.Proofs
set_option linter.unusedVariables false
set_option linter.unusedSimpArgs false
set_option maxRecDepth 10000
set_option maxHeartbeats 8000000
theorem mix:Tryz.prog.follows .mixedOrders=true:=by kernel_rfl
def F130:AFn:=⟨31,(.seq (.reg [o1 1 (.box 25 0),o1 2 (.mv (ci 0))]) (.seq (.block 0 (.seq (.reg [o1 4 (.ld 3 true 1),o1 5 (.build [(.int .i64 0),(.int .i64 0),(.int .i64 0)] []),o1 6 (.eqs false [(.int .i64),(.int .i64),(.int .i64)] 4 5),o1 7 (.mv 6),o4 8 (.faddr 1 1) 7,o4 9 (.ld 1 false 8) 7,o4 10 (.faddr 0 1) 7,o4 11 (.ld 1 false 10) 7,o4 12 (.bin .leq 9 11) 7,o1 13 (.pick 7 (.const (.bool true)) 12),o1 3 (.mv 13)]) (.cond 3 (.seq (.reg [o1 2 (.mv (ci 0))]) .ret) (.seq (.reg [o1 15 (.faddr 0 1),o1 16 (.ld 1 false 15),o1 17 (.bin .lss 16 (ci 0)),o1 18 (.mv 17),o3 19 (.faddr 1 1) 18,o3 20 (.ld 1 false 19) 18,o3 21 (.faddr 0 1) 18,o3 22 (.ld 1 false 21) 18,o3 23 (.bin .add (ci 9223372036854775807) 22) 18,o3 24 (.bin .gtr 20 23) 18,o1 25 (.pick 18 24 (.const (.bool false))),o1 14 (.mv 25)]) (.cond 14 (.seq (.reg [o1 2 (.mv (ci 9223372036854775807))]) .ret) .skip))))) (.seq (.reg [o1 26 (.faddr 1 1),o1 27 (.ld 1 false 26),o1 28 (.faddr 0 1),o1 29 (.ld 1 false 28),o1 30 (.bin .sub 27 29),o1 2 (.mv 30)]) .ret))),[(2,none)]⟩
theorem x130:xf Tryz.prog 130=some F130:=by kernel_rfl
theorem con130 {w_h w_t w_m:Int}  : Con Tryz.prog 130 [.agg [.int .i64 w_h,.int .i64 w_t,.int .i64 w_m]] ((.int .i64 (posLen (Word.mk w_h w_t w_m))),[],[]):=by
  refine mcb_of_vc mix x130 (by simp [F130]) fun hw _=>?_
  simp only [wfs,AV.wf,inR_i64] at hw
  repeat' with_reducible first|refine gTn_of (fun h=>?_) (fun h=>?_)|refine gT_of (fun h=>?_) (fun h=>?_)|refine caseTn_of (fun h=>?_) (fun h=>?_)|refine caseT_of (fun h=>?_) (fun h=>?_)|refine fin_pure ?_ ?_ ?_ ?_|refine kv_ifn ?_ ?_|refine kv_if ?_ ?_|refine k_if ?_ ?_|simp -implicitDefEqProofs only [F130,qA,doLd,doSt,splice,doEqs,qU,List.reduceReplicate,Nat.reduceAdd,Nat.reduceSub,Nat.reduceLeDiff,Nat.reduceEqDiff,Nat.reduceMul,reduceIte,reduceCtorEq, *]
  all_goals first
    | (simp; done)
    | exact idxF_any
    | exact idxF_any.symm
    | grind [inR_i64,wrap64,maxLen_eq,posLen]

def F236:AFn:=⟨9,(.seq (.reg [o1 2 (.box 25 0),o1 4 (.mv (.const (.bool false)))]) (.seq (.reg [o1 5 (.ld 3 true 2),o1 6 (.call 130 [5]),o1 7 (.mv 1),o1 8 (.bin .geq 6 7),o1 4 (.mv 8)]) .ret)),[(4,none)]⟩
theorem x236:xf Tryz.prog 236=some F236:=by kernel_rfl
theorem con236 {w_h w_t:Int} {w_m room:Int}  : Con Tryz.prog 236 [.agg [.int .i64 w_h,.int .i64 w_t,.int .i64 w_m],.int .i64 room] ((.bool (posFull (Word.mk w_h w_t w_m) room)),[],[]):=by
  refine mcb_of_vc mix x236 (by simp [F236]) fun hw _=>?_
  simp only [wfs,AV.wf,inR_i64] at hw
  repeat' with_reducible first|refine gTn_of (fun h=>?_) (fun h=>?_)|refine gT_of (fun h=>?_) (fun h=>?_)|refine caseTn_of (fun h=>?_) (fun h=>?_)|refine caseT_of (fun h=>?_) (fun h=>?_)|refine fin_pure ?_ ?_ ?_ ?_|refine kv_ifn ?_ ?_|refine kv_if ?_ ?_|refine k_if ?_ ?_|refine P0 (con130) ?_ ?_ ?_|refine ACV.of (con130) ?_ ?_ ?_|refine ACK.of (con130) ?_ ?_|simp -implicitDefEqProofs only [F236,qA,doLd,doSt,splice,doEqs,qU,List.reduceReplicate,Nat.reduceAdd,Nat.reduceSub,Nat.reduceLeDiff,Nat.reduceEqDiff,Nat.reduceMul,reduceIte,reduceCtorEq, *]
  all_goals first
    | (simp; done)
    | exact idxF_any
    | exact idxF_any.symm
    | grind [inR_i64,wrap64,maxLen_eq,posFull]

def F206:AFn:=⟨15,(.seq (.reg [o1 6 (.mv (.const (.bool false)))]) (.seq (.reg [o1 7 (.mv 0),o1 8 (.mv 1),o1 9 (.bin .geq 7 8),o1 10 (.mv 9),o3 11 (.mv 0) 10,o3 12 (.mv 2) 10,o3 13 (.bin .leq 11 12) 10,o1 14 (.pick 10 13 (.const (.bool false))),o1 6 (.mv 14)]) .ret)),[(6,none)]⟩
theorem x206:xf Tryz.prog 206=some F206:=by kernel_rfl
theorem con206 {n low high:Int}  : Con Tryz.prog 206 [.int .i64 n,.int .i64 low,.int .i64 high] ((.bool (within n low high)),[],[]):=by
  refine mcb_of_vc mix x206 (by simp [F206]) fun hw _=>?_
  simp only [wfs,AV.wf,inR_i64] at hw
  repeat' with_reducible first|refine gTn_of (fun h=>?_) (fun h=>?_)|refine gT_of (fun h=>?_) (fun h=>?_)|refine caseTn_of (fun h=>?_) (fun h=>?_)|refine caseT_of (fun h=>?_) (fun h=>?_)|refine fin_pure ?_ ?_ ?_ ?_|refine kv_ifn ?_ ?_|refine kv_if ?_ ?_|refine k_if ?_ ?_|simp -implicitDefEqProofs only [F206,qA,doLd,doSt,splice,doEqs,qU,List.reduceReplicate,Nat.reduceAdd,Nat.reduceSub,Nat.reduceLeDiff,Nat.reduceEqDiff,Nat.reduceMul,reduceIte,reduceCtorEq, *]
  all_goals first
    | (simp; done)
    | exact idxF_any
    | exact idxF_any.symm
    | grind [inR_i64,wrap64,maxLen_eq,within]

def F106:AFn:=⟨29,(.seq (.reg [o1 2 (.box 25 0),o1 4 (.mv (.const (.bool false)))]) (.seq (.reg [o1 5 (.mv (.func 206))]) (.seq (.reg [o1 6 (.mv 5),o1 7 (.faddr 1 2),o1 8 (.ld 1 false 7),o1 9 (.faddr 0 2),o1 10 (.ld 1 false 9),o1 11 (.callv 6 [8,10,(ci 1099511627776)]),o1 12 (.mv 11),o3 13 (.faddr 0 2) 12,o3 14 (.ld 1 false 13) 12,o3 15 (.bin .geq 14 (ci 0)) 12,o1 16 (.pick 12 15 (.const (.bool false))),o1 17 (.mv 16),o3 18 (.ld 3 true 2) 17,o3 19 (.call 130 [18]) 17,o3 20 (.mv 1) 17,o3 21 (.bin .leq 19 20) 17,o1 22 (.pick 17 21 (.const (.bool false))),o1 23 (.mv 22),o3 24 (.mv 5) 23,o3 25 (.faddr 2 2) 23,o3 26 (.ld 1 false 25) 23,o3 27 (.callv 24 [26,(ci 0),(ci 2)]) 23,o1 28 (.pick 23 27 (.const (.bool false))),o1 4 (.mv 28)]) .ret))),[(4,none)]⟩
theorem x106:xf Tryz.prog 106=some F106:=by kernel_rfl
theorem con106 {w_h w_t:Int} {w_m room:Int}  : Con Tryz.prog 106 [.agg [.int .i64 w_h,.int .i64 w_t,.int .i64 w_m],.int .i64 room] ((.bool (posCheck (Word.mk w_h w_t w_m) room)),[],[]):=by
  refine mcb_of_vc mix x106 (by simp [F106]) fun hw _=>?_
  simp only [wfs,AV.wf,inR_i64] at hw
  repeat' with_reducible first|refine gTn_of (fun h=>?_) (fun h=>?_)|refine gT_of (fun h=>?_) (fun h=>?_)|refine caseTn_of (fun h=>?_) (fun h=>?_)|refine caseT_of (fun h=>?_) (fun h=>?_)|refine fin_pure ?_ ?_ ?_ ?_|refine kv_ifn ?_ ?_|refine kv_if ?_ ?_|refine k_if ?_ ?_|refine P0 (con206) ?_ ?_ ?_|refine ACV.of (con206) ?_ ?_ ?_|refine ACK.of (con206) ?_ ?_|refine P0 (con130) ?_ ?_ ?_|refine ACV.of (con130) ?_ ?_ ?_|refine ACK.of (con130) ?_ ?_|simp -implicitDefEqProofs only [F106,qA,doLd,doSt,splice,doEqs,qU,List.reduceReplicate,Nat.reduceAdd,Nat.reduceSub,Nat.reduceLeDiff,Nat.reduceEqDiff,Nat.reduceMul,reduceIte,reduceCtorEq, *]
  all_goals first
    | (simp; done)
    | exact idxF_any
    | exact idxF_any.symm
    | grind [inR_i64,wrap64,maxLen_eq,posCheck]

def F228:AFn:=⟨11,(.seq (.reg [o1 4 (.mv (.const (.bool false)))]) (.seq (.reg [o1 5 (.mv 0),o1 6 (.bin .geq 5 (ci 0)),o1 7 (.mv 6),o3 8 (.mv 1) 7,o3 9 (.bin .geq 8 (ci 1)) 7,o1 10 (.pick 7 9 (.const (.bool false))),o1 4 (.mv 10)]) .ret)),[(4,none)]⟩
theorem x228:xf Tryz.prog 228=some F228:=by kernel_rfl
theorem con228 {p room:Int}  : Con Tryz.prog 228 [.int .i64 p,.int .i64 room] ((.bool (posIs p room)),[],[]):=by
  refine mcb_of_vc mix x228 (by simp [F228]) fun hw _=>?_
  simp only [wfs,AV.wf,inR_i64] at hw
  repeat' with_reducible first|refine gTn_of (fun h=>?_) (fun h=>?_)|refine gT_of (fun h=>?_) (fun h=>?_)|refine caseTn_of (fun h=>?_) (fun h=>?_)|refine caseT_of (fun h=>?_) (fun h=>?_)|refine fin_pure ?_ ?_ ?_ ?_|refine kv_ifn ?_ ?_|refine kv_if ?_ ?_|refine k_if ?_ ?_|simp -implicitDefEqProofs only [F228,qA,doLd,doSt,splice,doEqs,qU,List.reduceReplicate,Nat.reduceAdd,Nat.reduceSub,Nat.reduceLeDiff,Nat.reduceEqDiff,Nat.reduceMul,reduceIte,reduceCtorEq, *]
  all_goals first
    | (simp; done)
    | exact idxF_any
    | exact idxF_any.symm
    | grind [inR_i64,wrap64,maxLen_eq,posIs]

def F131:AFn:=⟨12,(.seq (.reg [o1 4 (.mv (ci 0))]) (.seq (.seq (.reg [o1 5 (.mv 0),o1 6 (.mv 1),o1 7 (.call 228 [5,6]),o1 8 (.not 7)]) (.cond 8 (.seq (.reg [o1 4 (.mv (ci 0))]) .ret) .skip)) (.seq (.reg [o1 9 (.mv 0),o1 10 (.mv 1),o1 11 (.bin .rem 9 10),o1 4 (.mv 11)]) .ret))),[(4,none)]⟩
theorem x131:xf Tryz.prog 131=some F131:=by kernel_rfl
theorem con131 {p room:Int}  : Con Tryz.prog 131 [.int .i64 p,.int .i64 room] ((.int .i64 (posPlace p room)),[],[]):=by
  refine mcb_of_vc mix x131 (by simp [F131]) fun hw _=>?_
  simp only [wfs,AV.wf,inR_i64] at hw
  repeat' with_reducible first|refine gTn_of (fun h=>?_) (fun h=>?_)|refine gT_of (fun h=>?_) (fun h=>?_)|refine caseTn_of (fun h=>?_) (fun h=>?_)|refine caseT_of (fun h=>?_) (fun h=>?_)|refine fin_pure ?_ ?_ ?_ ?_|refine kv_ifn ?_ ?_|refine kv_if ?_ ?_|refine k_if ?_ ?_|refine P0 (con228) ?_ ?_ ?_|refine ACV.of (con228) ?_ ?_ ?_|refine ACK.of (con228) ?_ ?_|simp -implicitDefEqProofs only [F131,qA,doLd,doSt,splice,doEqs,qU,List.reduceReplicate,Nat.reduceAdd,Nat.reduceSub,Nat.reduceLeDiff,Nat.reduceEqDiff,Nat.reduceMul,reduceIte,reduceCtorEq, *]
  all_goals first
    | (simp; done)
    | exact idxF_any
    | exact idxF_any.symm
    | grind [inR_i64,wrap64,maxLen_eq,posPlace,posIs]

def F235:AFn:=⟨14,(.seq (.reg [o1 2 (.box 25 0),o1 4 (.mv (.const (.bool false)))]) (.seq (.reg [o1 5 (.faddr 2 2),o1 6 (.ld 1 false 5),o1 7 (.bin .eql 6 (ci 2)),o1 8 (.mv 7),o4 9 (.ld 3 true 2) 8,o4 10 (.mv 1) 8,o4 11 (.call 106 [9,10]) 8,o4 12 (.not 11) 8,o1 13 (.pick 8 (.const (.bool true)) 12),o1 4 (.mv 13)]) .ret)),[(4,none)]⟩
theorem x235:xf Tryz.prog 235=some F235:=by kernel_rfl
theorem con235 {w_h w_t:Int} {w_m room:Int}  : Con Tryz.prog 235 [.agg [.int .i64 w_h,.int .i64 w_t,.int .i64 w_m],.int .i64 room] ((.bool (wHalted (Word.mk w_h w_t w_m) room)),[],[]):=by
  refine mcb_of_vc mix x235 (by simp [F235]) fun hw _=>?_
  simp only [wfs,AV.wf,inR_i64] at hw
  repeat' with_reducible first|refine gTn_of (fun h=>?_) (fun h=>?_)|refine gT_of (fun h=>?_) (fun h=>?_)|refine caseTn_of (fun h=>?_) (fun h=>?_)|refine caseT_of (fun h=>?_) (fun h=>?_)|refine fin_pure ?_ ?_ ?_ ?_|refine kv_ifn ?_ ?_|refine kv_if ?_ ?_|refine k_if ?_ ?_|refine P0 (con106) ?_ ?_ ?_|refine ACV.of (con106) ?_ ?_ ?_|refine ACK.of (con106) ?_ ?_|simp -implicitDefEqProofs only [F235,qA,doLd,doSt,splice,doEqs,qU,List.reduceReplicate,Nat.reduceAdd,Nat.reduceSub,Nat.reduceLeDiff,Nat.reduceEqDiff,Nat.reduceMul,reduceIte,reduceCtorEq, *]
  all_goals first
    | (simp; done)
    | exact idxF_any
    | exact idxF_any.symm
    | grind [inR_i64,wrap64,maxLen_eq,wHalted]

def F234:AFn:=⟨8,(.seq (.reg [o1 3 (.alloc 25 [(.int .i64 0),(.int .i64 0),(.int .i64 0)]),o1 4 (.mv (ci 0)),o1 5 (.mv (ci 0))]) (.seq (.reg [o1 6 (.ld 3 true 1),o1 7 (.mv 0),o2 (.st 3 3 6),o1 4 (.mv (ci 0)),o1 5 (.mv 7)]) .ret)),[(3,some (3,true)),(4,none),(5,none)]⟩
theorem x234:xf Tryz.prog 234=some F234:=by kernel_rfl
theorem con234 {w_h w_t:Int} {w_m r:Int}  : Con Tryz.prog 234 [.int .i64 r,.pv [.int .i64 w_h,.int .i64 w_t,.int .i64 w_m]] ((.tup [.agg (encW (((((Word.mk w_h w_t w_m),0,r):Word×Int×Int)).1)),.int .i64 (((((Word.mk w_h w_t w_m),0,r):Word×Int×Int)).2.1),.int .i64 (((((Word.mk w_h w_t w_m),0,r):Word×Int×Int)).2.2)]),[],[]):=by
  refine mcb_of_vc mix x234 (by simp [F234]) fun hw _=>?_
  simp only [wfs,AV.wf,inR_i64] at hw
  repeat' with_reducible first|refine gTn_of (fun h=>?_) (fun h=>?_)|refine gT_of (fun h=>?_) (fun h=>?_)|refine caseTn_of (fun h=>?_) (fun h=>?_)|refine caseT_of (fun h=>?_) (fun h=>?_)|refine fin_pure ?_ ?_ ?_ ?_|refine kv_ifn ?_ ?_|refine kv_if ?_ ?_|refine k_if ?_ ?_|simp -implicitDefEqProofs only [F234,qA,doLd,doSt,splice,doEqs,qU,List.reduceReplicate,Nat.reduceAdd,Nat.reduceSub,Nat.reduceLeDiff,Nat.reduceEqDiff,Nat.reduceMul,reduceIte,reduceCtorEq,encW, *]
  all_goals first
    | (simp; done)
    | exact idxF_any
    | exact idxF_any.symm
    | grind [inR_i64,wrap64,maxLen_eq]

def F146:AFn:=⟨50,(.seq (.reg [o1 2 (.box 25 0),o1 4 (.alloc 25 [(.int .i64 0),(.int .i64 0),(.int .i64 0)]),o1 5 (.mv (ci 0)),o1 6 (.mv (ci 0))]) (.seq (.reg [o1 9 (.mkfn (.func 234) [] [2]),o1 7 (.mv 9)]) (.seq (.block 0 (.seq (.reg [o1 11 (.ld 3 true 2),o1 12 (.mv 1),o1 13 (.call 235 [11,12]),o1 10 (.mv 13)]) (.cond 10 (.seq (.reg [o1 14 (.mv 7),o1 15 (.callv 14 [(ci 7)]),o1 16 (.ext 15 0),o1 17 (.ext 15 1),o1 18 (.ext 15 2),o2 (.st 3 4 16),o1 5 (.mv 17),o1 6 (.mv 18)]) .ret) (.seq (.reg [o1 20 (.faddr 2 2),o1 21 (.ld 1 false 20),o1 22 (.bin .eql 21 (ci 1)),o1 19 (.mv 22)]) (.cond 19 (.seq (.reg [o1 23 (.mv 7),o1 24 (.callv 23 [(ci 6)]),o1 25 (.ext 24 0),o1 26 (.ext 24 1),o1 27 (.ext 24 2),o2 (.st 3 4 25),o1 5 (.mv 26),o1 6 (.mv 27)]) .ret) (.seq (.reg [o1 29 (.ld 3 true 2),o1 30 (.mv 1),o1 31 (.call 236 [29,30]),o1 32 (.mv 31),o4 33 (.faddr 1 2) 32,o4 34 (.ld 1 false 33) 32,o4 35 (.bin .eql 34 (ci 1099511627776)) 32,o1 36 (.pick 32 (.const (.bool true)) 35),o1 28 (.mv 36)]) (.cond 28 (.seq (.reg [o1 37 (.mv 7),o1 38 (.callv 37 [(ci 2)]),o1 39 (.ext 38 0),o1 40 (.ext 38 1),o1 41 (.ext 38 2),o2 (.st 3 4 39),o1 5 (.mv 40),o1 6 (.mv 41)]) .ret) .skip))))))) (.seq (.reg [o1 42 (.faddr 1 2),o1 43 (.ld 1 false 42),o1 8 (.mv 43)]) (.seq (.reg [o1 44 (.faddr 1 2),o1 45 (.ld 1 false 44),o1 46 (.bin .add 45 (ci 1)),o1 47 (.faddr 1 2),o2 (.st 1 47 46)]) (.seq (.reg [o1 48 (.ld 3 true 2),o1 49 (.mv 8),o2 (.st 3 4 48),o1 5 (.mv 49),o1 6 (.mv (ci 1))]) .ret)))))),[(4,some (3,true)),(5,none),(6,none)]⟩
theorem x146:xf Tryz.prog 146=some F146:=by kernel_rfl
theorem con146 {w_h w_t:Int} {w_m room:Int}  : Con Tryz.prog 146 [.agg [.int .i64 w_h,.int .i64 w_t,.int .i64 w_m],.int .i64 room] ((.tup [.agg (encW ((wAccept (Word.mk w_h w_t w_m) room).1)),.int .i64 ((wAccept (Word.mk w_h w_t w_m) room).2.1),.int .i64 ((wAccept (Word.mk w_h w_t w_m) room).2.2)]),[],[]):=by
  refine mcb_of_vc mix x146 (by simp [F146]) fun hw _=>?_
  simp only [wfs,AV.wf,inR_i64] at hw
  repeat' with_reducible first|refine gTn_of (fun h=>?_) (fun h=>?_)|refine gT_of (fun h=>?_) (fun h=>?_)|refine caseTn_of (fun h=>?_) (fun h=>?_)|refine caseT_of (fun h=>?_) (fun h=>?_)|refine fin_pure ?_ ?_ ?_ ?_|refine kv_ifn ?_ ?_|refine kv_if ?_ ?_|refine k_if ?_ ?_|refine AC.viewAll ?_ ?_ ?_|refine P0 (con235) ?_ ?_ ?_|refine ACV.of (con235) ?_ ?_ ?_|refine ACK.of (con235) ?_ ?_|refine P0 (con236) ?_ ?_ ?_|refine ACV.of (con236) ?_ ?_ ?_|refine ACK.of (con236) ?_ ?_|refine P0 (con234) ?_ ?_ ?_|refine ACV.of (con234) ?_ ?_ ?_|refine ACK.of (con234) ?_ ?_|simp -implicitDefEqProofs only [F146,qA,doLd,doSt,splice,doEqs,qU,List.reduceReplicate,Nat.reduceAdd,Nat.reduceSub,Nat.reduceLeDiff,Nat.reduceEqDiff,Nat.reduceMul,reduceIte,reduceCtorEq,encW, *]
  all_goals first
    | (simp; done)
    | exact idxF_any
    | exact idxF_any.symm
    | grind [inR_i64,wrap64,maxLen_eq,wAccept,wHalted,posCheck,within]

def F266:AFn:=⟨8,(.seq (.reg [o1 3 (.alloc 25 [(.int .i64 0),(.int .i64 0),(.int .i64 0)]),o1 4 (.mv (ci 0)),o1 5 (.mv (ci 0))]) (.seq (.reg [o1 6 (.ld 3 true 1),o1 7 (.mv 0),o2 (.st 3 3 6),o1 4 (.mv (ci 0)),o1 5 (.mv 7)]) .ret)),[(3,some (3,true)),(4,none),(5,none)]⟩
theorem x266:xf Tryz.prog 266=some F266:=by kernel_rfl
theorem con266 {w_h w_t:Int} {w_m r:Int}  : Con Tryz.prog 266 [.int .i64 r,.pv [.int .i64 w_h,.int .i64 w_t,.int .i64 w_m]] ((.tup [.agg (encW (((((Word.mk w_h w_t w_m),0,r):Word×Int×Int)).1)),.int .i64 (((((Word.mk w_h w_t w_m),0,r):Word×Int×Int)).2.1),.int .i64 (((((Word.mk w_h w_t w_m),0,r):Word×Int×Int)).2.2)]),[],[]):=by
  refine mcb_of_vc mix x266 (by simp [F266]) fun hw _=>?_
  simp only [wfs,AV.wf,inR_i64] at hw
  repeat' with_reducible first|refine gTn_of (fun h=>?_) (fun h=>?_)|refine gT_of (fun h=>?_) (fun h=>?_)|refine caseTn_of (fun h=>?_) (fun h=>?_)|refine caseT_of (fun h=>?_) (fun h=>?_)|refine fin_pure ?_ ?_ ?_ ?_|refine kv_ifn ?_ ?_|refine kv_if ?_ ?_|refine k_if ?_ ?_|simp -implicitDefEqProofs only [F266,qA,doLd,doSt,splice,doEqs,qU,List.reduceReplicate,Nat.reduceAdd,Nat.reduceSub,Nat.reduceLeDiff,Nat.reduceEqDiff,Nat.reduceMul,reduceIte,reduceCtorEq,encW, *]
  all_goals first
    | (simp; done)
    | exact idxF_any
    | exact idxF_any.symm
    | grind [inR_i64,wrap64,maxLen_eq]

def F230:AFn:=⟨45,(.seq (.reg [o1 2 (.box 25 0),o1 4 (.alloc 25 [(.int .i64 0),(.int .i64 0),(.int .i64 0)]),o1 5 (.mv (ci 0)),o1 6 (.mv (ci 0))]) (.seq (.reg [o1 9 (.mkfn (.func 266) [] [2]),o1 7 (.mv 9)]) (.seq (.block 0 (.seq (.reg [o1 11 (.ld 3 true 2),o1 12 (.mv 1),o1 13 (.call 235 [11,12]),o1 10 (.mv 13)]) (.cond 10 (.seq (.reg [o1 14 (.mv 7),o1 15 (.callv 14 [(ci 7)]),o1 16 (.ext 15 0),o1 17 (.ext 15 1),o1 18 (.ext 15 2),o2 (.st 3 4 16),o1 5 (.mv 17),o1 6 (.mv 18)]) .ret) (.seq (.reg [o1 20 (.ld 3 true 2),o1 21 (.call 130 [20]),o1 22 (.bin .gtr 21 (ci 0)),o1 19 (.mv 22)]) (.cond 19 (.seq (.reg [o1 23 (.faddr 0 2),o1 24 (.ld 1 false 23),o1 8 (.mv 24)]) (.seq (.reg [o1 25 (.faddr 0 2),o1 26 (.ld 1 false 25),o1 27 (.bin .add 26 (ci 1)),o1 28 (.faddr 0 2),o2 (.st 1 28 27)]) (.seq (.reg [o1 29 (.ld 3 true 2),o1 30 (.mv 8),o2 (.st 3 4 29),o1 5 (.mv 30),o1 6 (.mv (ci 1))]) .ret))) (.seq (.reg [o1 32 (.faddr 2 2),o1 33 (.ld 1 false 32),o1 34 (.bin .eql 33 (ci 1)),o1 31 (.mv 34)]) (.cond 31 (.seq (.reg [o1 35 (.mv 7),o1 36 (.callv 35 [(ci 6)]),o1 37 (.ext 36 0),o1 38 (.ext 36 1),o1 39 (.ext 36 2),o2 (.st 3 4 37),o1 5 (.mv 38),o1 6 (.mv 39)]) .ret) .skip))))))) (.seq (.reg [o1 40 (.mv 7),o1 41 (.callv 40 [(ci 4)]),o1 42 (.ext 41 0),o1 43 (.ext 41 1),o1 44 (.ext 41 2),o2 (.st 3 4 42),o1 5 (.mv 43),o1 6 (.mv 44)]) .ret)))),[(4,some (3,true)),(5,none),(6,none)]⟩
theorem x230:xf Tryz.prog 230=some F230:=by kernel_rfl
theorem con230 {w_h w_t:Int} {w_m room:Int}  : Con Tryz.prog 230 [.agg [.int .i64 w_h,.int .i64 w_t,.int .i64 w_m],.int .i64 room] ((.tup [.agg (encW ((wTake (Word.mk w_h w_t w_m) room).1)),.int .i64 ((wTake (Word.mk w_h w_t w_m) room).2.1),.int .i64 ((wTake (Word.mk w_h w_t w_m) room).2.2)]),[],[]):=by
  refine mcb_of_vc mix x230 (by simp [F230]) fun hw _=>?_
  simp only [wfs,AV.wf,inR_i64] at hw
  repeat' with_reducible first|refine gTn_of (fun h=>?_) (fun h=>?_)|refine gT_of (fun h=>?_) (fun h=>?_)|refine caseTn_of (fun h=>?_) (fun h=>?_)|refine caseT_of (fun h=>?_) (fun h=>?_)|refine fin_pure ?_ ?_ ?_ ?_|refine kv_ifn ?_ ?_|refine kv_if ?_ ?_|refine k_if ?_ ?_|refine AC.viewAll ?_ ?_ ?_|refine P0 (con235) ?_ ?_ ?_|refine ACV.of (con235) ?_ ?_ ?_|refine ACK.of (con235) ?_ ?_|refine P0 (con130) ?_ ?_ ?_|refine ACV.of (con130) ?_ ?_ ?_|refine ACK.of (con130) ?_ ?_|refine P0 (con266) ?_ ?_ ?_|refine ACV.of (con266) ?_ ?_ ?_|refine ACK.of (con266) ?_ ?_|simp -implicitDefEqProofs only [F230,qA,doLd,doSt,splice,doEqs,qU,List.reduceReplicate,Nat.reduceAdd,Nat.reduceSub,Nat.reduceLeDiff,Nat.reduceEqDiff,Nat.reduceMul,reduceIte,reduceCtorEq,encW, *]
  all_goals first
    | (simp; done)
    | exact idxF_any
    | exact idxF_any.symm
    | grind [inR_i64,wrap64,maxLen_eq,wTake,wHalted,posCheck,within,posLen]

def F142:AFn:=⟨28,(.seq (.reg [o1 2 (.box 25 0),o1 4 (.mv (ci 0)),o1 5 (.mv (ci 0))]) (.seq (.reg [o1 13 (.ld 3 true 2),o1 14 (.mv 1),o1 15 (.call 146 [13,14]),o1 12 (.mv 15),o1 16 (.ext 12 0),o1 17 (.ext 12 1),o1 18 (.ext 12 2),o1 6 (.alloc 25 [(.int .i64 0),(.int .i64 0),(.int .i64 0)]),o2 (.st 3 6 16),o1 7 (.mv 17),o1 8 (.mv 18)]) (.seq (.reg [o1 20 (.ld 3 true 2),o1 21 (.mv 1),o1 22 (.call 230 [20,21]),o1 19 (.mv 22),o1 23 (.ext 19 0),o1 24 (.ext 19 1),o1 25 (.ext 19 2),o1 9 (.alloc 25 [(.int .i64 0),(.int .i64 0),(.int .i64 0)]),o2 (.st 3 9 23),o1 10 (.mv 24),o1 11 (.mv 25)]) (.seq (.reg [o1 26 (.mv 8),o1 27 (.mv 11),o1 4 (.mv 26),o1 5 (.mv 27)]) .ret)))),[(4,none),(5,none)]⟩
theorem x142:xf Tryz.prog 142=some F142:=by kernel_rfl
theorem con142 {w_h w_t:Int} {w_m room:Int}  : Con Tryz.prog 142 [.agg [.int .i64 w_h,.int .i64 w_t,.int .i64 w_m],.int .i64 room] ((.tup [.int .i64 ((wSees (Word.mk w_h w_t w_m) room).1),.int .i64 ((wSees (Word.mk w_h w_t w_m) room).2)]),[],[]):=by
  refine mcb_of_vc mix x142 (by simp [F142]) fun hw _=>?_
  simp only [wfs,AV.wf,inR_i64] at hw
  repeat' with_reducible first|refine gTn_of (fun h=>?_) (fun h=>?_)|refine gT_of (fun h=>?_) (fun h=>?_)|refine caseTn_of (fun h=>?_) (fun h=>?_)|refine caseT_of (fun h=>?_) (fun h=>?_)|refine fin_pure ?_ ?_ ?_ ?_|refine kv_ifn ?_ ?_|refine kv_if ?_ ?_|refine k_if ?_ ?_|refine P0 (con146) ?_ ?_ ?_|refine ACV.of (con146) ?_ ?_ ?_|refine ACK.of (con146) ?_ ?_|refine P0 (con230) ?_ ?_ ?_|refine ACV.of (con230) ?_ ?_ ?_|refine ACK.of (con230) ?_ ?_|simp -implicitDefEqProofs only [F142,qA,doLd,doSt,splice,doEqs,qU,List.reduceReplicate,Nat.reduceAdd,Nat.reduceSub,Nat.reduceLeDiff,Nat.reduceEqDiff,Nat.reduceMul,reduceIte,reduceCtorEq,encW, *]
  all_goals first
    | (simp; done)
    | exact idxF_any
    | exact idxF_any.symm
    | grind [inR_i64,wrap64,maxLen_eq,wSees]

def F155:AFn:=⟨38,(.seq (.reg [o1 3 (.box 25 0),o1 6 (.alloc 25 [(.int .i64 0),(.int .i64 0),(.int .i64 0)]),o1 7 (.mv (.const (.bool false)))]) (.seq (.reg [o1 9 (.mv 2),o1 10 (.faddr 1 3),o1 11 (.ld 1 false 10),o1 12 (.build [(.int .i64 0),(.int .i64 0),(.int .i64 0)] [(0,1,9),(1,1,11),(2,1,(ci 0))]),o1 8 (.alloc 25 [(.int .i64 0),(.int .i64 0),(.int .i64 0)]),o2 (.st 3 8 12)]) (.seq (.seq (.reg [o1 13 (.ld 3 true 3),o1 14 (.ld 3 true 8),o1 15 (.eqs true [(.int .i64),(.int .i64),(.int .i64)] 13 14),o1 16 (.mv 15),o4 17 (.ld 3 true 3) 16,o4 18 (.mv 1) 16,o4 19 (.call 235 [17,18]) 16,o1 20 (.pick 16 (.const (.bool true)) 19),o1 21 (.mv 20),o4 22 (.ld 3 true 3) 21,o4 23 (.mv 1) 21,o4 24 (.call 236 [22,23]) 21,o4 25 (.not 24) 21,o1 26 (.pick 21 (.const (.bool true)) 25),o1 27 (.mv 26),o4 28 (.ld 3 true 3) 27,o4 29 (.call 130 [28]) 27,o4 30 (.bin .eql 29 (ci 0)) 27,o1 31 (.pick 27 (.const (.bool true)) 30)]) (.cond 31 (.seq (.reg [o1 32 (.ld 3 true 3),o2 (.st 3 6 32),o1 7 (.mv (.const (.bool false)))]) .ret) .skip)) (.seq (.reg [o1 33 (.faddr 0 3),o1 34 (.ld 1 false 33),o1 35 (.bin .add 34 (ci 1)),o1 36 (.faddr 0 3),o2 (.st 1 36 35)]) (.seq (.reg [o1 37 (.ld 3 true 3),o2 (.st 3 6 37),o1 7 (.mv (.const (.bool true)))]) .ret))))),[(6,some (3,true)),(7,none)]⟩
theorem x155:xf Tryz.prog 155=some F155:=by kernel_rfl
theorem con155 {w_h w_t:Int} {w_m room head:Int}  : Con Tryz.prog 155 [.agg [.int .i64 w_h,.int .i64 w_t,.int .i64 w_m],.int .i64 room,.int .i64 head] ((.tup [.agg (encW ((wEvict (Word.mk w_h w_t w_m) room head).1)),.bool ((wEvict (Word.mk w_h w_t w_m) room head).2)]),[],[]):=by
  refine mcb_of_vc mix x155 (by simp [F155]) fun hw _=>?_
  simp only [wfs,AV.wf,inR_i64] at hw
  repeat' with_reducible first|refine gTn_of (fun h=>?_) (fun h=>?_)|refine gT_of (fun h=>?_) (fun h=>?_)|refine caseTn_of (fun h=>?_) (fun h=>?_)|refine caseT_of (fun h=>?_) (fun h=>?_)|refine fin_pure ?_ ?_ ?_ ?_|refine kv_ifn ?_ ?_|refine kv_if ?_ ?_|refine k_if ?_ ?_|refine P0 (con235) ?_ ?_ ?_|refine ACV.of (con235) ?_ ?_ ?_|refine ACK.of (con235) ?_ ?_|refine P0 (con236) ?_ ?_ ?_|refine ACV.of (con236) ?_ ?_ ?_|refine ACK.of (con236) ?_ ?_|refine P0 (con130) ?_ ?_ ?_|refine ACV.of (con130) ?_ ?_ ?_|refine ACK.of (con130) ?_ ?_|simp -implicitDefEqProofs only [F155,qA,doLd,doSt,splice,doEqs,qU,List.reduceReplicate,Nat.reduceAdd,Nat.reduceSub,Nat.reduceLeDiff,Nat.reduceEqDiff,Nat.reduceMul,reduceIte,reduceCtorEq,encW, *]
  all_goals first
    | (simp; done)
    | exact idxF_any
    | exact idxF_any.symm
    | grind [inR_i64,wrap64,maxLen_eq,wEvict,wHalted,posCheck,within,posLen]

def F134:AFn:=⟨15,(.seq (.reg [o1 2 (.mv (ci 0))]) (.seq (.seq (.reg [o1 3 (.mv 0)]) (.block 0 (.seq (.seq (.reg [o1 5 (.bin .eql 3 (ci 1)),o1 4 (.mv 5)]) (.cond 4 .skip (.seq (.reg [o1 6 (.bin .eql 3 (ci 2)),o1 4 (.mv 6)]) (.cond 4 .skip (.reg [o1 7 (.bin .eql 3 (ci 3)),o1 4 (.mv 7)]))))) (.cond 4 (.seq (.reg [o1 2 (.mv (ci 1))]) .ret) (.seq (.seq (.reg [o1 9 (.bin .eql 3 (ci 4)),o1 8 (.mv 9)]) (.cond 8 .skip (.seq (.reg [o1 10 (.bin .eql 3 (ci 5)),o1 8 (.mv 10)]) (.cond 8 .skip (.reg [o1 11 (.bin .eql 3 (ci 6)),o1 8 (.mv 11)]))))) (.cond 8 (.seq (.reg [o1 2 (.mv (ci 2))]) .ret) (.seq (.seq (.reg [o1 13 (.bin .eql 3 (ci 7)),o1 12 (.mv 13)]) (.cond 12 .skip (.reg [o1 14 (.bin .eql 3 (ci 8)),o1 12 (.mv 14)]))) (.cond 12 (.seq (.reg [o1 2 (.mv (ci 3))]) .ret) .skip)))))))) (.seq (.reg [o1 2 (.mv (ci 0))]) .ret))),[(2,none)]⟩
theorem x134:xf Tryz.prog 134=some F134:=by kernel_rfl
theorem con134 {k:Int}  : Con Tryz.prog 134 [.int .i64 k] ((.int .i64 (opSide k)),[],[]):=by
  refine mcb_of_vc mix x134 (by simp [F134]) fun hw _=>?_
  simp only [wfs,AV.wf,inR_i64] at hw
  repeat' with_reducible first|refine gTn_of (fun h=>?_) (fun h=>?_)|refine gT_of (fun h=>?_) (fun h=>?_)|refine caseTn_of (fun h=>?_) (fun h=>?_)|refine caseT_of (fun h=>?_) (fun h=>?_)|refine fin_pure ?_ ?_ ?_ ?_|refine kv_ifn ?_ ?_|refine kv_if ?_ ?_|refine k_if ?_ ?_|simp -implicitDefEqProofs only [F134,qA,doLd,doSt,splice,doEqs,qU,List.reduceReplicate,Nat.reduceAdd,Nat.reduceSub,Nat.reduceLeDiff,Nat.reduceEqDiff,Nat.reduceMul,reduceIte,reduceCtorEq, *]
  all_goals first
    | (simp; done)
    | exact idxF_any
    | exact idxF_any.symm
    | grind [inR_i64,wrap64,maxLen_eq,opSide]

def F119:AFn:=⟨6,(.seq (.reg [o1 2 (.mv (.const (.bool false)))]) (.seq (.reg [o1 3 (.mv 0),o1 4 (.call 134 [3]),o1 5 (.bin .gtr 4 (ci 0)),o1 2 (.mv 5)]) .ret)),[(2,none)]⟩
theorem x119:xf Tryz.prog 119=some F119:=by kernel_rfl
theorem con119 {k:Int}  : Con Tryz.prog 119 [.int .i64 k] ((.bool (opCheck k)),[],[]):=by
  refine mcb_of_vc mix x119 (by simp [F119]) fun hw _=>?_
  simp only [wfs,AV.wf,inR_i64] at hw
  repeat' with_reducible first|refine gTn_of (fun h=>?_) (fun h=>?_)|refine gT_of (fun h=>?_) (fun h=>?_)|refine caseTn_of (fun h=>?_) (fun h=>?_)|refine caseT_of (fun h=>?_) (fun h=>?_)|refine fin_pure ?_ ?_ ?_ ?_|refine kv_ifn ?_ ?_|refine kv_if ?_ ?_|refine k_if ?_ ?_|refine P0 (con134) ?_ ?_ ?_|refine ACV.of (con134) ?_ ?_ ?_|refine ACK.of (con134) ?_ ?_|simp -implicitDefEqProofs only [F119,qA,doLd,doSt,splice,doEqs,qU,List.reduceReplicate,Nat.reduceAdd,Nat.reduceSub,Nat.reduceLeDiff,Nat.reduceEqDiff,Nat.reduceMul,reduceIte,reduceCtorEq, *]
  all_goals first
    | (simp; done)
    | exact idxF_any
    | exact idxF_any.symm
    | grind [inR_i64,wrap64,maxLen_eq,opCheck]

def F212:AFn:=⟨9,(.seq (.reg [o1 2 (.mv (.const (.bool false)))]) (.seq (.reg [o1 3 (.mv 0),o1 4 (.bin .eql 3 (ci 3)),o1 5 (.mv 4),o4 6 (.mv 0) 5,o4 7 (.bin .eql 6 (ci 6)) 5,o1 8 (.pick 5 (.const (.bool true)) 7),o1 2 (.mv 8)]) .ret)),[(2,none)]⟩
theorem x212:xf Tryz.prog 212=some F212:=by kernel_rfl
theorem con212 {k:Int}  : Con Tryz.prog 212 [.int .i64 k] ((.bool (opTimed k)),[],[]):=by
  refine mcb_of_vc mix x212 (by simp [F212]) fun hw _=>?_
  simp only [wfs,AV.wf,inR_i64] at hw
  repeat' with_reducible first|refine gTn_of (fun h=>?_) (fun h=>?_)|refine gT_of (fun h=>?_) (fun h=>?_)|refine caseTn_of (fun h=>?_) (fun h=>?_)|refine caseT_of (fun h=>?_) (fun h=>?_)|refine fin_pure ?_ ?_ ?_ ?_|refine kv_ifn ?_ ?_|refine kv_if ?_ ?_|refine k_if ?_ ?_|simp -implicitDefEqProofs only [F212,qA,doLd,doSt,splice,doEqs,qU,List.reduceReplicate,Nat.reduceAdd,Nat.reduceSub,Nat.reduceLeDiff,Nat.reduceEqDiff,Nat.reduceMul,reduceIte,reduceCtorEq, *]
  all_goals first
    | (simp; done)
    | exact idxF_any
    | exact idxF_any.symm
    | grind [inR_i64,wrap64,maxLen_eq,opTimed]

end Go.Sak
