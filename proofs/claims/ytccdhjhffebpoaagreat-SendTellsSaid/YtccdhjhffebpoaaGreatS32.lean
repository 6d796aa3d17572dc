/- Part S32 of the proofs about the program: K32. Conditions: none. -/
import Derived.Test.YtccdhjhffebpoaaGreatS31
import Derived.Test.YtccdhjhffebpoaaGreatS03
import Derived.Test.YtccdhjhffebpoaaGreatS21
import Derived.Test.YtccdhjhffebpoaaGreatS04
import Derived.Test.YtccdhjhffebpoaaGreatProg
import Derived.KernelRfl
namespace Go.Sak
open Go Go.RowKit Go.Proofs
set_option linter.unusedVariables false
set_option linter.unusedSimpArgs false
set_option maxRecDepth 10000
set_option maxHeartbeats 8000000
def few (s:State):Bool:=decide (s.slots.length≤100) && decide (s.threads.length≤100) && decide (s.sends.length≤100) && decide (s.recvs.length≤100) && decide (s.full.ln.length≤100) && decide (s.empty.ln.length≤100) && decide (s.log.length≤200)
def sInside (pc:Int):Bool:=decide (pc≥1) && decide (pc<12)
def sNear (pc:Int):Int:=if pc=4 then 2 else if pc=6 then 1 else 0
def F22:AFn:=⟨9,(.seq (.reg [o1 2 (.mv (.const (.bool false)))]) (.seq (.reg [o1 3 (.mv 0),o1 4 (.bin .geq 3 (ci 1)),o1 5 (.mv 4),o3 6 (.mv 0) 5,o3 7 (.bin .lss 6 (ci 12)) 5,o1 8 (.pick 5 7 (.const (.bool false))),o1 2 (.mv 8)]) .ret)),[(2,none)]⟩
theorem x22:xf Tryz.prog 22=some F22:=by kernel_rfl
theorem con22 {pc:Int}  : Con Tryz.prog 22 [.int .i64 pc] ((.bool (sInside pc)),[],[]):=by
  refine mcb_of_vc mix x22 (by simp [F22]) fun hw _=>?_
  simp only [wfs,AV.wf,inR_i64] at hw
  repeat' with_reducible first|refine gTn_of (fun h=>?_) (fun h=>?_)|refine gT_of (fun h=>?_) (fun h=>?_)|refine caseTn_of (fun h=>?_) (fun h=>?_)|refine caseT_of (fun h=>?_) (fun h=>?_)|refine fin_pure ?_ ?_ ?_ ?_|refine kv_ifn ?_ ?_|refine kv_if ?_ ?_|refine k_if ?_ ?_|simp -implicitDefEqProofs only [F22,qA,doLd,doSt,splice,doEqs,qU,List.reduceReplicate,Nat.reduceAdd,Nat.reduceSub,Nat.reduceLeDiff,Nat.reduceEqDiff,Nat.reduceMul,reduceIte,reduceCtorEq, *]
  all_goals first
    | (simp; done)
    | exact idxF_any
    | exact idxF_any.symm
    | grind [inR_i64,wrap64,maxLen_eq,sInside]

def F23:AFn:=⟨8,(.seq (.reg [o1 2 (.mv (ci 0))]) (.seq (.seq (.reg [o1 3 (.mv 0)]) (.block 0 (.seq (.reg [o1 5 (.bin .eql 3 (ci 4)),o1 4 (.mv 5)]) (.cond 4 (.seq (.reg [o1 2 (.mv (ci 2))]) .ret) (.seq (.reg [o1 7 (.bin .eql 3 (ci 6)),o1 6 (.mv 7)]) (.cond 6 (.seq (.reg [o1 2 (.mv (ci 1))]) .ret) .skip)))))) (.seq (.reg [o1 2 (.mv (ci 0))]) .ret))),[(2,none)]⟩
theorem x23:xf Tryz.prog 23=some F23:=by kernel_rfl
theorem con23 {pc:Int}  : Con Tryz.prog 23 [.int .i64 pc] ((.int .i64 (sNear pc)),[],[]):=by
  refine mcb_of_vc mix x23 (by simp [F23]) fun hw _=>?_
  simp only [wfs,AV.wf,inR_i64] at hw
  repeat' with_reducible first|refine gTn_of (fun h=>?_) (fun h=>?_)|refine gT_of (fun h=>?_) (fun h=>?_)|refine caseTn_of (fun h=>?_) (fun h=>?_)|refine caseT_of (fun h=>?_) (fun h=>?_)|refine fin_pure ?_ ?_ ?_ ?_|refine kv_ifn ?_ ?_|refine kv_if ?_ ?_|refine k_if ?_ ?_|simp -implicitDefEqProofs only [F23,qA,doLd,doSt,splice,doEqs,qU,List.reduceReplicate,Nat.reduceAdd,Nat.reduceSub,Nat.reduceLeDiff,Nat.reduceEqDiff,Nat.reduceMul,reduceIte,reduceCtorEq, *]
  all_goals first
    | (simp; done)
    | exact idxF_any
    | exact idxF_any.symm
    | grind [inR_i64,wrap64,maxLen_eq,sNear]

def F54:AFn:=⟨19,(.seq (.reg [o1 2 (.box 29 0),o1 3 (.box 29 1),o1 4 (.mv (.const (.bool false)))]) (.seq (.reg [o1 6 (.faddr 1 2),o1 7 (.ld 1 false 6),o1 8 (.faddr 1 3),o1 9 (.ld 1 false 8),o1 10 (.call 34 [7,9]),o1 5 (.mv 10)]) (.seq (.reg [o1 11 (.mv 5),o1 12 (.mv 11),o3 13 (.faddr 0 2) 12,o3 14 (.ld 1 false 13) 12,o3 15 (.faddr 0 3) 12,o3 16 (.ld 1 false 15) 12,o3 17 (.bin .eql 14 16) 12,o1 18 (.pick 12 17 (.const (.bool false))),o1 4 (.mv 18)]) .ret))),[(4,none)]⟩
theorem x54:xf Tryz.prog 54=some F54:=by kernel_rfl
theorem con54 {a_ep:Int} {a_ln:List Int} {b_ep:Int} {b_ln:List Int} (h1:a_ln.length≤100000000):Con Tryz.prog 54 [.agg [.int .i64 a_ep,.slv 1 (a_ln.map encI)],.agg [.int .i64 b_ep,.slv 1 (b_ln.map encI)]] ((.bool (decide ((Event.mk a_ep a_ln)=(Event.mk b_ep b_ln)))),[],[]):=by
  refine mcb_of_vc mix x54 (by simp [F54]) fun hw _=>?_
  simp only [wfs,AV.wf,inR_i64] at hw
  repeat' with_reducible first|refine gTn_of (fun h=>?_) (fun h=>?_)|refine gT_of (fun h=>?_) (fun h=>?_)|refine caseTn_of (fun h=>?_) (fun h=>?_)|refine caseT_of (fun h=>?_) (fun h=>?_)|refine fin_pure ?_ ?_ ?_ ?_|refine kv_ifn ?_ ?_|refine kv_if ?_ ?_|refine k_if ?_ ?_|refine P0 (con34 ?_) ?_ ?_ ?_|refine ACV.of (con34 ?_) ?_ ?_ ?_|refine ACK.of (con34 ?_) ?_ ?_|simp -implicitDefEqProofs only [F54,qA,doLd,doSt,splice,doEqs,qU,List.reduceReplicate,Nat.reduceAdd,Nat.reduceSub,Nat.reduceLeDiff,Nat.reduceEqDiff,Nat.reduceMul,reduceIte,reduceCtorEq, *]
  all_goals first
    | (simp; done)
    | exact idxF_any
    | exact idxF_any.symm
    | grind [inR_i64,wrap64,maxLen_eq]

def F16:AFn:=⟨45,(.seq (.reg [o1 1 (.box 33 0),o1 2 (.mv (.const (.bool false)))]) (.seq (.reg [o1 3 (.faddr 10 1),o1 4 (.ld 1 false 3),o1 5 (.len 4),o1 6 (.bin .leq 5 (ci 100)),o1 7 (.mv 6),o3 8 (.faddr 18 1) 7,o3 9 (.ld 1 false 8) 7,o3 10 (.len 9) 7,o3 11 (.bin .leq 10 (ci 100)) 7,o1 12 (.pick 7 11 (.const (.bool false))),o1 13 (.mv 12),o3 14 (.faddr 11 1) 13,o3 15 (.ld 1 false 14) 13,o3 16 (.len 15) 13,o3 17 (.bin .leq 16 (ci 100)) 13,o1 18 (.pick 13 17 (.const (.bool false))),o1 19 (.mv 18),o3 20 (.faddr 12 1) 19,o3 21 (.ld 1 false 20) 19,o3 22 (.len 21) 19,o3 23 (.bin .leq 22 (ci 100)) 19,o1 24 (.pick 19 23 (.const (.bool false))),o1 25 (.mv 24),o3 26 (.faddr 13 1) 25,o3 27 (.faddr 1 26) 25,o3 28 (.ld 1 false 27) 25,o3 29 (.len 28) 25,o3 30 (.bin .leq 29 (ci 100)) 25,o1 31 (.pick 25 30 (.const (.bool false))),o1 32 (.mv 31),o3 33 (.faddr 15 1) 32,o3 34 (.faddr 1 33) 32,o3 35 (.ld 1 false 34) 32,o3 36 (.len 35) 32,o3 37 (.bin .leq 36 (ci 100)) 32,o1 38 (.pick 32 37 (.const (.bool false))),o1 39 (.mv 38),o3 40 (.faddr 19 1) 39,o3 41 (.ld 1 false 40) 39,o3 42 (.len 41) 39,o3 43 (.bin .leq 42 (ci 200)) 39,o1 44 (.pick 39 43 (.const (.bool false))),o1 2 (.mv 44)]) .ret)),[(2,none)]⟩
theorem x16:xf Tryz.prog 16=some F16:=by kernel_rfl
theorem con16 {s_lg s_th:Int} {s_pol s_wt:Int} {s_spin s_yld:Int} {s_single:Bool} {s_h s_t s_m:Int} {s_slots:List Slot} {s_sends s_recvs:List Int} {s_fe:Int} {s_fl:List Int} {s_ee:Int} {s_el:List Int} {s_now:Int} {s_thr:List Thread} {s_log:List Entry}:Con Tryz.prog 16 [.agg [.int .i64 s_lg,.int .i64 s_th,.int .i64 s_pol,.int .i64 s_wt,.int .i64 s_spin,.int .i64 s_yld,.bool s_single,.int .i64 s_h,.int .i64 s_t,.int .i64 s_m,.slv 2 (s_slots.map encS),.slv 1 (s_sends.map encI),.slv 1 (s_recvs.map encI),.int .i64 s_fe,.slv 1 (s_fl.map encI),.int .i64 s_ee,.slv 1 (s_el.map encI),.int .i64 s_now,.slv 11 (s_thr.map encT),.slv 5 (s_log.map encE)]] (.bool (few (State.mk (Config.mk s_lg s_th s_pol s_wt s_spin s_yld s_single) (Word.mk s_h s_t s_m) s_slots s_sends s_recvs (Event.mk s_fe s_fl) (Event.mk s_ee s_el) s_now s_thr s_log)),[],[]):=by
  refine mcb_of_vc mix x16 (by simp [F16]) fun hw _=>?_
  simp only [wfs,AV.wf,inR_i64,List.length_map] at hw
  repeat' with_reducible first|refine gTn_of (fun h=>?_) (fun h=>?_)|refine gT_of (fun h=>?_) (fun h=>?_)|refine caseTn_of (fun h=>?_) (fun h=>?_)|refine caseT_of (fun h=>?_) (fun h=>?_)|refine fin_pure ?_ ?_ ?_ ?_|refine kv_ifn ?_ ?_|refine kv_if ?_ ?_|refine k_if ?_ ?_|simp -implicitDefEqProofs only [F16,qA,ld_0,ld_pv,st_0,splice,doEqs,qU,List.reduceReplicate,Nat.reduceAdd,Nat.reduceSub,Nat.reduceLeDiff,Nat.reduceEqDiff,Nat.reduceMul,reduceIte,reduceCtorEq,qI,Nat.reduceLT,Nat.reduceBEq,doBslice, *]
  all_goals first
    | omega
    | (simp; done)
    | grind [few]
    | trace_state

def F19:AFn:=⟨81,(.seq (.reg [o1 2 (.box 33 0),o1 3 (.box 33 1),o1 4 (.mv (.const (.bool false)))]) (.seq (.reg [o1 9 (.faddr 0 2),o1 10 (.ld 7 true 9),o1 11 (.faddr 0 3),o1 12 (.ld 7 true 11),o1 13 (.eqs false [(.int .i64),(.int .i64),(.int .i64),(.int .i64),(.int .i64),(.int .i64),.bool] 10 12),o1 14 (.mv 13),o3 15 (.faddr 7 2) 14,o3 16 (.ld 3 true 15) 14,o3 17 (.faddr 7 3) 14,o3 18 (.ld 3 true 17) 14,o3 19 (.eqs false [(.int .i64),(.int .i64),(.int .i64)] 16 18) 14,o1 20 (.pick 14 19 (.const (.bool false))),o1 21 (.mv 20),o3 22 (.faddr 17 2) 21,o3 23 (.ld 1 false 22) 21,o3 24 (.faddr 17 3) 21,o3 25 (.ld 1 false 24) 21,o3 26 (.bin .eql 23 25) 21,o1 27 (.pick 21 26 (.const (.bool false))),o1 5 (.mv 27)]) (.seq (.reg [o1 28 (.faddr 10 2),o1 29 (.ld 1 false 28),o1 30 (.faddr 10 3),o1 31 (.ld 1 false 30),o1 32 (.call 53 [29,31]),o1 33 (.mv 32),o3 34 (.faddr 11 2) 33,o3 35 (.ld 1 false 34) 33,o3 36 (.faddr 11 3) 33,o3 37 (.ld 1 false 36) 33,o3 38 (.call 34 [35,37]) 33,o1 39 (.pick 33 38 (.const (.bool false))),o1 40 (.mv 39),o3 41 (.faddr 12 2) 40,o3 42 (.ld 1 false 41) 40,o3 43 (.faddr 12 3) 40,o3 44 (.ld 1 false 43) 40,o3 45 (.call 34 [42,44]) 40,o1 46 (.pick 40 45 (.const (.bool false))),o1 6 (.mv 46)]) (.seq (.reg [o1 47 (.faddr 13 2),o1 48 (.ld 2 true 47),o1 49 (.faddr 13 3),o1 50 (.ld 2 true 49),o1 51 (.call 54 [48,50]),o1 52 (.mv 51),o3 53 (.faddr 15 2) 52,o3 54 (.ld 2 true 53) 52,o3 55 (.faddr 15 3) 52,o3 56 (.ld 2 true 55) 52,o3 57 (.call 54 [54,56]) 52,o1 58 (.pick 52 57 (.const (.bool false))),o1 7 (.mv 58)]) (.seq (.reg [o1 59 (.faddr 18 2),o1 60 (.ld 1 false 59),o1 61 (.faddr 18 3),o1 62 (.ld 1 false 61),o1 63 (.call 55 [60,62]),o1 64 (.mv 63),o3 65 (.faddr 19 2) 64,o3 66 (.ld 1 false 65) 64,o3 67 (.faddr 19 3) 64,o3 68 (.ld 1 false 67) 64,o3 69 (.call 46 [66,68]) 64,o1 70 (.pick 64 69 (.const (.bool false))),o1 8 (.mv 70)]) (.seq (.reg [o1 71 (.mv 5),o1 72 (.mv 71),o3 73 (.mv 6) 72,o1 74 (.pick 72 73 (.const (.bool false))),o1 75 (.mv 74),o3 76 (.mv 7) 75,o1 77 (.pick 75 76 (.const (.bool false))),o1 78 (.mv 77),o3 79 (.mv 8) 78,o1 80 (.pick 78 79 (.const (.bool false))),o1 4 (.mv 80)]) .ret)))))),[(4,none)]⟩
theorem x19:xf Tryz.prog 19=some F19:=by kernel_rfl
theorem con19 {s_lg s_th:Int} {s_pol s_wt:Int} {s_spin s_yld:Int} {s_single:Bool} {s_h s_t s_m:Int} {s_slots:List Slot} {s_sends s_recvs:List Int} {s_fe:Int} {s_fl:List Int} {s_ee:Int} {s_el:List Int} {s_now:Int} {s_thr:List Thread} {s_log:List Entry} {u_lg u_th:Int} {u_pol u_wt:Int} {u_spin u_yld:Int} {u_single:Bool} {u_h u_t u_m:Int} {u_slots:List Slot} {u_sends u_recvs:List Int} {u_fe:Int} {u_fl:List Int} {u_ee:Int} {u_el:List Int} {u_now:Int} {u_thr:List Thread} {u_log:List Entry} (h1:s_slots.length≤100000000) (h2:s_sends.length≤100000000) (h3:s_recvs.length≤100000000) (h4:s_fl.length≤100000000) (h5:s_el.length≤100000000) (h6:s_thr.length≤100000000) (h7:s_log.length≤100000000):Con Tryz.prog 19 [.agg [.int .i64 s_lg,.int .i64 s_th,.int .i64 s_pol,.int .i64 s_wt,.int .i64 s_spin,.int .i64 s_yld,.bool s_single,.int .i64 s_h,.int .i64 s_t,.int .i64 s_m,.slv 2 (s_slots.map encS),.slv 1 (s_sends.map encI),.slv 1 (s_recvs.map encI),.int .i64 s_fe,.slv 1 (s_fl.map encI),.int .i64 s_ee,.slv 1 (s_el.map encI),.int .i64 s_now,.slv 11 (s_thr.map encT),.slv 5 (s_log.map encE)],.agg [.int .i64 u_lg,.int .i64 u_th,.int .i64 u_pol,.int .i64 u_wt,.int .i64 u_spin,.int .i64 u_yld,.bool u_single,.int .i64 u_h,.int .i64 u_t,.int .i64 u_m,.slv 2 (u_slots.map encS),.slv 1 (u_sends.map encI),.slv 1 (u_recvs.map encI),.int .i64 u_fe,.slv 1 (u_fl.map encI),.int .i64 u_ee,.slv 1 (u_el.map encI),.int .i64 u_now,.slv 11 (u_thr.map encT),.slv 5 (u_log.map encE)]] (.bool (decide ((State.mk (Config.mk s_lg s_th s_pol s_wt s_spin s_yld s_single) (Word.mk s_h s_t s_m) s_slots s_sends s_recvs (Event.mk s_fe s_fl) (Event.mk s_ee s_el) s_now s_thr s_log)=(State.mk (Config.mk u_lg u_th u_pol u_wt u_spin u_yld u_single) (Word.mk u_h u_t u_m) u_slots u_sends u_recvs (Event.mk u_fe u_fl) (Event.mk u_ee u_el) u_now u_thr u_log))),[],[]):=by
  refine mcb_of_vc mix x19 (by simp [F19]) fun hw _=>?_
  simp only [wfs,AV.wf,inR_i64,List.length_map] at hw
  repeat' with_reducible first|refine gTn_of (fun h=>?_) (fun h=>?_)|refine gT_of (fun h=>?_) (fun h=>?_)|refine caseTn_of (fun h=>?_) (fun h=>?_)|refine caseT_of (fun h=>?_) (fun h=>?_)|refine fin_pure ?_ ?_ ?_ ?_|refine kv_ifn ?_ ?_|refine kv_if ?_ ?_|refine k_if ?_ ?_|refine P0 (con54 ?_) ?_ ?_ ?_|refine ACV.of (con54 ?_) ?_ ?_ ?_|refine ACK.of (con54 ?_) ?_ ?_|refine P0 (con53 ?_) ?_ ?_ ?_|refine ACV.of (con53 ?_) ?_ ?_ ?_|refine ACK.of (con53 ?_) ?_ ?_|refine P0 (con55 ?_) ?_ ?_ ?_|refine ACV.of (con55 ?_) ?_ ?_ ?_|refine ACK.of (con55 ?_) ?_ ?_|refine P0 (con46 ?_) ?_ ?_ ?_|refine ACV.of (con46 ?_) ?_ ?_ ?_|refine ACK.of (con46 ?_) ?_ ?_|refine P0 (con34 ?_) ?_ ?_ ?_|refine ACV.of (con34 ?_) ?_ ?_ ?_|refine ACK.of (con34 ?_) ?_ ?_|simp -implicitDefEqProofs only [F19,qA,ld_0,ld_pv,st_0,splice,doEqs,qU,List.reduceReplicate,Nat.reduceAdd,Nat.reduceSub,Nat.reduceLeDiff,Nat.reduceEqDiff,Nat.reduceMul,reduceIte,reduceCtorEq,qI,Nat.reduceLT,Nat.reduceBEq,doBslice, *]
  all_goals first
    | omega
    | (simp; done)
    | grind
    | trace_state

end Go.Sak
