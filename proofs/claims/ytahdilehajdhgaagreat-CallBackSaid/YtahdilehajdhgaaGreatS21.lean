/- Part S21 of the proofs about the program: K18, K19. Conditions: none. -/
import Derived.Test.YtahdilehajdhgaaGreatS20
import Derived.Test.YtahdilehajdhgaaGreatS04
import Derived.Test.YtahdilehajdhgaaGreatProg
import Derived.KernelRfl
import Derived.Test.YtahdilehajdhgaaGreatS03
namespace Go.Sak
open Go Go.RowKit Go.Proofs
set_option linter.unusedVariables false
set_option linter.unusedSimpArgs false
set_option maxRecDepth 10000
set_option maxHeartbeats 8000000
def F221:AFn:=⟨34,(.seq (.reg [o1 2 (.box 33 0),o1 4 (.mv (.const (.bool false)))]) (.seq (.seq (.reg [o1 6 (.ld 20 true 2),o1 7 (.call 18 [6]),o1 8 (.not 7),o1 9 (.mv 8),o4 10 (.mv 1) 9,o4 11 (.bin .lss 10 (ci 0)) 9,o1 12 (.pick 9 (.const (.bool true)) 11),o1 13 (.mv 12),o4 14 (.mv 1) 13,o4 15 (.faddr 18 2) 13,o4 16 (.ld 1 false 15) 13,o4 17 (.len 16) 13,o4 18 (.bin .geq 14 17) 13,o1 19 (.pick 13 (.const (.bool true)) 18)]) (.cond 19 (.seq (.reg [o1 4 (.mv (.const (.bool false)))]) .ret) .skip)) (.seq (.reg [o1 20 (.faddr 18 2),o1 21 (.ld 1 false 20),o1 22 (.mv 1),o1 23 (.iaddr 11 21 22),o1 24 (.ld 11 true 23),o1 5 (.alloc 42 [(.int .i64 0),(.int .i64 0),(.int .i64 0),(.int .i64 0),(.int .i64 0),(.int .i64 0),(.int .i64 0),(.int .i64 0),(.bool false),(.int .i64 0),(.int .i64 0)]),o2 (.st 11 5 24)]) (.seq (.reg [o1 25 (.ld 11 true 5),o1 26 (.call 124 [25]),o1 27 (.bin .eql 26 (ci 0)),o1 28 (.mv 27),o3 29 (.faddr 1 5) 28,o3 30 (.ld 1 false 29) 28,o3 31 (.call 75 [30]) 28,o3 32 (.bin .eql 31 (ci 1)) 28,o1 33 (.pick 28 32 (.const (.bool false))),o1 4 (.mv 33)]) .ret)))),[(4,none)]⟩
theorem x221:xf Tryz.prog 221=some F221:=by kernel_rfl
def F258:AFn:=⟨22,(.seq (.reg [o1 2 (.box 33 0),o1 4 (.mv (ci 0))]) (.seq (.seq (.reg [o1 5 (.ld 20 true 2),o1 6 (.call 18 [5]),o1 7 (.not 6),o1 8 (.mv 7),o4 9 (.mv 1) 8,o4 10 (.bin .lss 9 (ci 0)) 8,o1 11 (.pick 8 (.const (.bool true)) 10)]) (.cond 11 (.seq (.reg [o1 4 (.mv (ci 0))]) .ret) .skip)) (.seq (.regT [o1 12 (.faddr 10 2),o1 13 (.ld 1 false 12),o1 14 (.mv 1),o1 15 (.faddr 10 2),o1 16 (.ld 1 false 15),o1 17 (.len 16),o1 18 (.call 98 [14,17]),o1 19 (.iaddr 2 13 18),o1 20 (.faddr 1 19),o1 21 (.ld 1 false 20),o1 4 (.mv 21)] [(0,3),(1,3),(0,4),(1,4),(0,5),(1,5),(0,6),(1,6)]) .ret))),[(4,none)]⟩
theorem x258:xf Tryz.prog 258=some F258:=by kernel_rfl
theorem con41w {s_lg s_th:Int} {s_pol s_wt:Int} {s_spin s_yld:Int} {s_single:Bool} {s_h s_t s_m:Int} {s_slots:List Slot} {s_sends s_recvs:List Int} {s_fe:Int} {s_fl:List Int} {s_ee:Int} {s_el:List Int} {s_now:Int} {s_thr:List Thread} {s_log:List Entry} {id:Int} (h1:s_slots.length≤100000000) (h2:s_sends.length≤100000000) (h3:s_recvs.length≤100000000) (h4:s_fl.length≤100000000) (h5:s_el.length≤100000000) (h6:s_thr.length≤100000000) (h7:s_log.length≤100000000) (hne:s_thr≠[]):Con Tryz.prog 41 [.agg [.int .i64 s_lg,.int .i64 s_th,.int .i64 s_pol,.int .i64 s_wt,.int .i64 s_spin,.int .i64 s_yld,.bool s_single,.int .i64 s_h,.int .i64 s_t,.int .i64 s_m,.slv 2 (s_slots.map encS),.slv 1 (s_sends.map encI),.slv 1 (s_recvs.map encI),.int .i64 s_fe,.slv 1 (s_fl.map encI),.int .i64 s_ee,.slv 1 (s_el.map encI),.int .i64 s_now,.slv 11 (s_thr.map encT),.slv 5 (s_log.map encE)],.int .i64 id] (.agg (encX (State.mk (Config.mk s_lg s_th s_pol s_wt s_spin s_yld s_single) (Word.mk s_h s_t s_m) s_slots s_sends s_recvs (Event.mk s_fe s_fl) (Event.mk s_ee s_el) s_now s_thr s_log) (.slm 1 s_thr.length) (.slv 5 (s_log.map encE))),[(1,some (.rows 42 11 ((fabWake (State.mk (Config.mk s_lg s_th s_pol s_wt s_spin s_yld s_single) (Word.mk s_h s_t s_m) s_slots s_sends s_recvs (Event.mk s_fe s_fl) (Event.mk s_ee s_el) s_now s_thr s_log) id).threads.map encT)))],[]):=by
  by_cases hI:fabIs (State.mk (Config.mk s_lg s_th s_pol s_wt s_spin s_yld s_single) (Word.mk s_h s_t s_m) s_slots s_sends s_recvs (Event.mk s_fe s_fl) (Event.mk s_ee s_el) s_now s_thr s_log) id=true
  · rw [show fabWake (State.mk (Config.mk s_lg s_th s_pol s_wt s_spin s_yld s_single) (Word.mk s_h s_t s_m) s_slots s_sends s_recvs (Event.mk s_fe s_fl) (Event.mk s_ee s_el) s_now s_thr s_log) id=put1 (State.mk (Config.mk s_lg s_th s_pol s_wt s_spin s_yld s_single) (Word.mk s_h s_t s_m) s_slots s_sends s_recvs (Event.mk s_fe s_fl) (Event.mk s_ee s_el) s_now s_thr s_log) id (tWake (me (State.mk (Config.mk s_lg s_th s_pol s_wt s_spin s_yld s_single) (Word.mk s_h s_t s_m) s_slots s_sends s_recvs (Event.mk s_fe s_fl) (Event.mk s_ee s_el) s_now s_thr s_log) id)) from if_pos hI]
    have hI':=hI
    simp only [fabIs,Bool.and_eq_true,decide_eq_true_eq] at hI'
    obtain ⟨⟨hchk,hge⟩,hlt⟩:=hI'
    clear hI
    refine mcb_of_vc mix x41 (by simp [F41]) fun hw _=>?_
    clear hw
    repeat' with_reducible first|refine gTn_of (fun h=>?_) (fun h=>?_)|refine gT_of (fun h=>?_) (fun h=>?_)|refine caseTn_of (fun h=>?_) (fun h=>?_)|refine caseT_of (fun h=>?_) (fun h=>?_)|refine fin_t (by simp -implicitDefEqProofs only [qA,ld_0,ld_pv,st_0,splice,doEqs,qU,List.reduceReplicate,Nat.reduceAdd,Nat.reduceSub,Nat.reduceLeDiff,Nat.reduceEqDiff,Nat.reduceMul,reduceIte,reduceCtorEq,qI,Nat.reduceLT,Nat.reduceBEq, *]; exact rfl) ?_ ?_ ?_|refine kv_ifn ?_ ?_|refine kv_if ?_ ?_|refine k_if ?_ ?_|refine I0 mix x80 lf80 ?_ ?_ ?_ ?_ ?_|refine I0 mix x79 lf79 ?_ ?_ ?_ ?_ ?_|refine I0 mix x84 lf84 ?_ ?_ ?_ ?_ ?_|refine IA ?_ ?_ ?_|refine L1 ?_ ?_|refine L2 ?_ ?_|refine L3 ?_ ?_ ?_ ?_|refine L4 ?_ ?_|refine L5 ?_ ?_ ?_ ?_ ?_|refine L6 ?_ ?_ ?_ ?_ ?_|refine P0 (con18 ?_ ?_ ?_ ?_ ?_ ?_ ?_) ?_ ?_ ?_|refine N1 (con130g hne ?_) ?_ ?_|refine P0 (con129 ?_) ?_ ?_ ?_|refine ACV.of (con129 ?_) ?_ ?_ ?_|refine ACK.of (con129 ?_) ?_ ?_|refine P0 (con128 ?_) ?_ ?_ ?_|refine ACV.of (con128 ?_) ?_ ?_ ?_|refine ACK.of (con128 ?_) ?_ ?_|refine P0 (con131 ?_) ?_ ?_ ?_|refine ACV.of (con131 ?_) ?_ ?_ ?_|refine ACK.of (con131 ?_) ?_ ?_|refine P0 (con45) ?_ ?_ ?_|refine ACV.of (con45) ?_ ?_ ?_|refine ACK.of (con45) ?_ ?_|simp -implicitDefEqProofs only [F41,qA,ld_0,ld_pv,st_0,splice,doEqs,qU,List.reduceReplicate,Nat.reduceAdd,Nat.reduceSub,Nat.reduceLeDiff,Nat.reduceEqDiff,Nat.reduceMul,reduceIte,reduceCtorEq,qI,Nat.reduceLT,Nat.reduceBEq,F80,F79,F84,up_s,Int.toNat_natCast,encT, *]
    all_goals first
      | omega
      | (constructor <;> omega)
      | rfl
      | trace_state
  · rw [show fabWake (State.mk (Config.mk s_lg s_th s_pol s_wt s_spin s_yld s_single) (Word.mk s_h s_t s_m) s_slots s_sends s_recvs (Event.mk s_fe s_fl) (Event.mk s_ee s_el) s_now s_thr s_log) id=(State.mk (Config.mk s_lg s_th s_pol s_wt s_spin s_yld s_single) (Word.mk s_h s_t s_m) s_slots s_sends s_recvs (Event.mk s_fe s_fl) (Event.mk s_ee s_el) s_now s_thr s_log) from if_neg hI]
    have hI':fabCheck (State.mk (Config.mk s_lg s_th s_pol s_wt s_spin s_yld s_single) (Word.mk s_h s_t s_m) s_slots s_sends s_recvs (Event.mk s_fe s_fl) (Event.mk s_ee s_el) s_now s_thr s_log)=false∨¬ id≥0∨¬ id<s_thr.length:=by
      simp only [fabIs,Bool.and_eq_true,decide_eq_true_eq] at hI
      by_cases h1:fabCheck (State.mk (Config.mk s_lg s_th s_pol s_wt s_spin s_yld s_single) (Word.mk s_h s_t s_m) s_slots s_sends s_recvs (Event.mk s_fe s_fl) (Event.mk s_ee s_el) s_now s_thr s_log)=true
      · by_cases h2:id≥0
        · exact .inr (.inr fun h3=>hI ⟨⟨h1,h2⟩,h3⟩)
        · exact .inr (.inl h2)
      · exact .inl (by simpa using h1)
    clear hI
    rcases hI' with hI' | hI' | hI'
    all_goals refine mcb_of_vc mix x41 (by simp [F41]) fun hw _=>?_
    all_goals clear hw
    all_goals
      repeat' with_reducible first|refine gTn_of (fun h=>?_) (fun h=>?_)|refine gT_of (fun h=>?_) (fun h=>?_)|refine caseTn_of (fun h=>?_) (fun h=>?_)|refine caseT_of (fun h=>?_) (fun h=>?_)|refine fin_t (by simp -implicitDefEqProofs only [qA,ld_0,ld_pv,st_0,splice,doEqs,qU,List.reduceReplicate,Nat.reduceAdd,Nat.reduceSub,Nat.reduceLeDiff,Nat.reduceEqDiff,Nat.reduceMul,reduceIte,reduceCtorEq,qI,Nat.reduceLT,Nat.reduceBEq, *]; exact rfl) ?_ ?_ ?_|refine kv_ifn ?_ ?_|refine kv_if ?_ ?_|refine k_if ?_ ?_|refine I0 mix x80 lf80 ?_ ?_ ?_ ?_ ?_|refine I0 mix x79 lf79 ?_ ?_ ?_ ?_ ?_|refine I0 mix x84 lf84 ?_ ?_ ?_ ?_ ?_|refine IA ?_ ?_ ?_|refine L1 ?_ ?_|refine L2 ?_ ?_|refine L3 ?_ ?_ ?_ ?_|refine L4 ?_ ?_|refine L5 ?_ ?_ ?_ ?_ ?_|refine L6 ?_ ?_ ?_ ?_ ?_|refine P0 (con18 ?_ ?_ ?_ ?_ ?_ ?_ ?_) ?_ ?_ ?_|refine N1 (con130g hne ?_) ?_ ?_|refine P0 (con129 ?_) ?_ ?_ ?_|refine ACV.of (con129 ?_) ?_ ?_ ?_|refine ACK.of (con129 ?_) ?_ ?_|refine P0 (con128 ?_) ?_ ?_ ?_|refine ACV.of (con128 ?_) ?_ ?_ ?_|refine ACK.of (con128 ?_) ?_ ?_|refine P0 (con131 ?_) ?_ ?_ ?_|refine ACV.of (con131 ?_) ?_ ?_ ?_|refine ACK.of (con131 ?_) ?_ ?_|refine P0 (con45) ?_ ?_ ?_|refine ACV.of (con45) ?_ ?_ ?_|refine ACK.of (con45) ?_ ?_|simp -implicitDefEqProofs only [F41,qA,ld_0,ld_pv,st_0,splice,doEqs,qU,List.reduceReplicate,Nat.reduceAdd,Nat.reduceSub,Nat.reduceLeDiff,Nat.reduceEqDiff,Nat.reduceMul,reduceIte,reduceCtorEq,qI,Nat.reduceLT,Nat.reduceBEq,F80,F79,F84,up_s,Int.toNat_natCast,encT, *]
    all_goals first
      | omega
      | rfl
      | trace_state

end Go.Sak
