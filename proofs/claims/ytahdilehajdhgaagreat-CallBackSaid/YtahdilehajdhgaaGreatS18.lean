/- Part S18 of the proofs about the program: K15, K16. Conditions: none. -/
import Derived.Test.YtahdilehajdhgaaGreatS16
import Derived.Test.YtahdilehajdhgaaGreatS04
import Derived.Test.YtahdilehajdhgaaGreatProg
import Derived.KernelRfl
namespace Go.Sak
open Go Go.RowKit Go.Proofs
set_option linter.unusedVariables false
set_option linter.unusedSimpArgs false
set_option maxRecDepth 10000
set_option maxHeartbeats 8000000
def F79:AFn:=⟨36,(.seq (.reg [o1 1 (.box 33 0),o1 2 (.alloc 33 [(.int .i64 0),(.int .i64 0),(.int .i64 0),(.int .i64 0),(.int .i64 0),(.int .i64 0),(.bool false),(.int .i64 0),(.int .i64 0),(.int .i64 0),.slnil,.slnil,.slnil,(.int .i64 0),.slnil,(.int .i64 0),.slnil,(.int .i64 0),.slnil,.slnil])]) (.seq (.regT [o1 3 (.faddr 10 1),o1 4 (.ld 1 false 3),o1 5 (.call 128 [4]),o1 6 (.faddr 11 1),o1 7 (.ld 1 false 6),o1 8 (.call 129 [7]),o1 9 (.faddr 12 1),o1 10 (.ld 1 false 9),o1 11 (.call 129 [10]),o1 12 (.faddr 10 1),o2 (.st 1 12 5),o1 13 (.faddr 11 1),o2 (.st 1 13 8),o1 14 (.faddr 12 1),o2 (.st 1 14 11)] [(0,3),(1,3),(2,3),(0,4),(1,4),(2,4),(0,6),(1,6),(2,6),(3,6),(4,6),(5,6),(0,7),(1,7),(2,7),(3,7),(4,7),(5,7),(5,9),(8,9)]) (.seq (.regT [o1 15 (.faddr 13 1),o1 16 (.faddr 1 15),o1 17 (.ld 1 false 16),o1 18 (.call 129 [17]),o1 19 (.faddr 15 1),o1 20 (.faddr 1 19),o1 21 (.ld 1 false 20),o1 22 (.call 129 [21]),o1 23 (.faddr 13 1),o1 24 (.faddr 1 23),o2 (.st 1 24 18),o1 25 (.faddr 15 1),o1 26 (.faddr 1 25),o2 (.st 1 26 22)] [(0,4),(1,4),(2,4),(3,4),(0,5),(1,5),(2,5),(3,5),(0,6),(1,6),(2,6),(3,6),(7,8),(7,9)]) (.seq (.regT [o1 27 (.faddr 18 1),o1 28 (.ld 1 false 27),o1 29 (.call 130 [28]),o1 30 (.faddr 19 1),o1 31 (.ld 1 false 30),o1 32 (.call 131 [31]),o1 33 (.faddr 18 1),o2 (.st 1 33 29),o1 34 (.faddr 19 1),o2 (.st 1 34 32)] [(0,3),(1,3),(2,3),(0,4),(1,4),(2,4),(5,6)]) (.seq (.reg [o1 35 (.ld 20 true 1),o2 (.st 20 2 35)]) .ret))))),[(2,some (20,true))]⟩
theorem x79:xf Tryz.prog 79=some F79:=by kernel_rfl
theorem lf79:F79.code.lf=true:=rfl
def F80:AFn:=⟨30,(.seq (.reg [o1 3 (.box 33 0),o1 6 (.alloc 33 [(.int .i64 0),(.int .i64 0),(.int .i64 0),(.int .i64 0),(.int .i64 0),(.int .i64 0),(.bool false),(.int .i64 0),(.int .i64 0),(.int .i64 0),.slnil,.slnil,.slnil,(.int .i64 0),.slnil,(.int .i64 0),.slnil,(.int .i64 0),.slnil,.slnil])]) (.seq (.reg [o1 8 (.ld 20 true 3),o1 9 (.call 79 [8]),o1 7 (.alloc 33 [(.int .i64 0),(.int .i64 0),(.int .i64 0),(.int .i64 0),(.int .i64 0),(.int .i64 0),(.bool false),(.int .i64 0),(.int .i64 0),(.int .i64 0),.slnil,.slnil,.slnil,(.int .i64 0),.slnil,(.int .i64 0),.slnil,(.int .i64 0),.slnil,.slnil]),o2 (.st 20 7 9)]) (.seq (.seq (.reg [o1 10 (.ld 20 true 3),o1 11 (.call 18 [10]),o1 12 (.mv 11),o3 13 (.mv 1) 12,o3 14 (.bin .geq 13 (ci 0)) 12,o1 15 (.pick 12 14 (.const (.bool false))),o1 16 (.mv 15),o3 17 (.mv 1) 16,o3 18 (.faddr 18 3) 16,o3 19 (.ld 1 false 18) 16,o3 20 (.len 19) 16,o3 21 (.bin .lss 17 20) 16,o1 22 (.pick 16 21 (.const (.bool false)))]) (.cond 22 (.reg [o1 23 (.mv 2),o1 24 (.faddr 18 7),o1 25 (.ld 1 false 24),o1 26 (.mv 1),o1 27 (.iaddr 11 25 26),o1 28 (.callv 23 [27])]) .skip)) (.seq (.reg [o1 29 (.ld 20 true 7),o2 (.st 20 6 29)]) .ret)))),[(6,some (20,true))]⟩
theorem x80:xf Tryz.prog 80=some F80:=by kernel_rfl
theorem lf80:F80.code.lf=true:=rfl
def F84:AFn:=⟨8,(.reg [o1 2 (.mv 0),o1 3 (.mv 0),o1 4 (.nilchk 3),o1 5 (.ld 11 true 4),o1 6 (.call 45 [5]),o1 7 (.nilchk 2),o2 (.st 11 7 6)]),[]⟩
theorem x84:xf Tryz.prog 84=some F84:=by kernel_rfl
theorem lf84:F84.code.lf=true:=rfl
def F41:AFn:=⟨8,(.seq (.reg [o1 2 (.box 33 0),o1 4 (.alloc 33 [(.int .i64 0),(.int .i64 0),(.int .i64 0),(.int .i64 0),(.int .i64 0),(.int .i64 0),(.bool false),(.int .i64 0),(.int .i64 0),(.int .i64 0),.slnil,.slnil,.slnil,(.int .i64 0),.slnil,(.int .i64 0),.slnil,(.int .i64 0),.slnil,.slnil])]) (.seq (.reg [o1 5 (.ld 20 true 2),o1 6 (.mv 1),o1 7 (.call 80 [5,6,(.func 84)]),o2 (.st 20 4 7)]) .ret)),[(4,some (20,true))]⟩
theorem x41:xf Tryz.prog 41=some F41:=by kernel_rfl
theorem con41 {s_lg s_th:Int} {s_pol s_wt:Int} {s_spin s_yld:Int} {s_single:Bool} {s_h s_t s_m:Int} {s_slots:List Slot} {s_sends s_recvs:List Int} {s_fe:Int} {s_fl:List Int} {s_ee:Int} {s_el:List Int} {s_now:Int} {s_thr:List Thread} {s_log:List Entry} {id:Int} (h1:s_slots.length≤100000000) (h2:s_sends.length≤100000000) (h3:s_recvs.length≤100000000) (h4:s_fl.length≤100000000) (h5:s_el.length≤100000000) (h6:s_thr.length≤100000000) (h7:s_log.length≤100000000):Con Tryz.prog 41 [.agg [.int .i64 s_lg,.int .i64 s_th,.int .i64 s_pol,.int .i64 s_wt,.int .i64 s_spin,.int .i64 s_yld,.bool s_single,.int .i64 s_h,.int .i64 s_t,.int .i64 s_m,.slv 2 (s_slots.map encS),.slv 1 (s_sends.map encI),.slv 1 (s_recvs.map encI),.int .i64 s_fe,.slv 1 (s_fl.map encI),.int .i64 s_ee,.slv 1 (s_el.map encI),.int .i64 s_now,.slv 11 (s_thr.map encT),.slv 5 (s_log.map encE)],.int .i64 id] (.agg (encZ (fabWake (State.mk (Config.mk s_lg s_th s_pol s_wt s_spin s_yld s_single) (Word.mk s_h s_t s_m) s_slots s_sends s_recvs (Event.mk s_fe s_fl) (Event.mk s_ee s_el) s_now s_thr s_log) id)),[],[]):=by
  by_cases hI:fabIs (State.mk (Config.mk s_lg s_th s_pol s_wt s_spin s_yld s_single) (Word.mk s_h s_t s_m) s_slots s_sends s_recvs (Event.mk s_fe s_fl) (Event.mk s_ee s_el) s_now s_thr s_log) id=true
  · rw [show fabWake (State.mk (Config.mk s_lg s_th s_pol s_wt s_spin s_yld s_single) (Word.mk s_h s_t s_m) s_slots s_sends s_recvs (Event.mk s_fe s_fl) (Event.mk s_ee s_el) s_now s_thr s_log) id=put1 (State.mk (Config.mk s_lg s_th s_pol s_wt s_spin s_yld s_single) (Word.mk s_h s_t s_m) s_slots s_sends s_recvs (Event.mk s_fe s_fl) (Event.mk s_ee s_el) s_now s_thr s_log) id (tWake (me (State.mk (Config.mk s_lg s_th s_pol s_wt s_spin s_yld s_single) (Word.mk s_h s_t s_m) s_slots s_sends s_recvs (Event.mk s_fe s_fl) (Event.mk s_ee s_el) s_now s_thr s_log) id)) from if_pos hI]
    have hI':=hI
    simp only [fabIs,Bool.and_eq_true,decide_eq_true_eq] at hI'
    obtain ⟨⟨hchk,hge⟩,hlt⟩:=hI'
    have hne:s_thr≠[]:=by intro h; subst h; simp at hlt; omega
    clear hI
    refine mcb_of_vc mix x41 (by simp [F41]) fun hw _=>?_
    clear hw
    repeat' with_reducible first|refine gTn_of (fun h=>?_) (fun h=>?_)|refine gT_of (fun h=>?_) (fun h=>?_)|refine caseTn_of (fun h=>?_) (fun h=>?_)|refine caseT_of (fun h=>?_) (fun h=>?_)|refine FN ?_ ?_ ?_ ?_ rfl ?_|refine kv_ifn ?_ ?_|refine kv_if ?_ ?_|refine k_if ?_ ?_|refine I0 mix x80 lf80 ?_ ?_ ?_ ?_ ?_|refine I0 mix x79 lf79 ?_ ?_ ?_ ?_ ?_|refine I0 mix x84 lf84 ?_ ?_ ?_ ?_ ?_|refine IA ?_ ?_ ?_|refine L1 ?_ ?_|refine L2 ?_ ?_|refine L3 ?_ ?_ ?_ ?_|refine L4 ?_ ?_|refine L5 ?_ ?_ ?_ ?_ ?_|refine L6 ?_ ?_ ?_ ?_ ?_|refine P0 (con18 ?_ ?_ ?_ ?_ ?_ ?_ ?_) ?_ ?_ ?_|refine N1 (con130g hne ?_) ?_ ?_|refine P0 (con129 ?_) ?_ ?_ ?_|refine ACV.of (con129 ?_) ?_ ?_ ?_|refine ACK.of (con129 ?_) ?_ ?_|refine P0 (con128 ?_) ?_ ?_ ?_|refine ACV.of (con128 ?_) ?_ ?_ ?_|refine ACK.of (con128 ?_) ?_ ?_|refine P0 (con131 ?_) ?_ ?_ ?_|refine ACV.of (con131 ?_) ?_ ?_ ?_|refine ACK.of (con131 ?_) ?_ ?_|refine P0 (con45) ?_ ?_ ?_|refine ACV.of (con45) ?_ ?_ ?_|refine ACK.of (con45) ?_ ?_|simp -implicitDefEqProofs only [F41,qA,ld_0,ld_pv,st_0,splice,doEqs,qU,List.reduceReplicate,Nat.reduceAdd,Nat.reduceSub,Nat.reduceLeDiff,Nat.reduceEqDiff,Nat.reduceMul,reduceIte,reduceCtorEq,qI,Nat.reduceLT,Nat.reduceBEq,F80,F79,F84,up_s,Int.toNat_natCast,encT, *]
    all_goals first
      | omega
      | (constructor <;> omega)
      | exact Wk.refl _
      | trace_state
  · rw [show fabWake (State.mk (Config.mk s_lg s_th s_pol s_wt s_spin s_yld s_single) (Word.mk s_h s_t s_m) s_slots s_sends s_recvs (Event.mk s_fe s_fl) (Event.mk s_ee s_el) s_now s_thr s_log) id=(State.mk (Config.mk s_lg s_th s_pol s_wt s_spin s_yld s_single) (Word.mk s_h s_t s_m) s_slots s_sends s_recvs (Event.mk s_fe s_fl) (Event.mk s_ee s_el) s_now s_thr s_log) from if_neg hI]
    have hI':fabCheck (State.mk (Config.mk s_lg s_th s_pol s_wt s_spin s_yld s_single) (Word.mk s_h s_t s_m) s_slots s_sends s_recvs (Event.mk s_fe s_fl) (Event.mk s_ee s_el) s_now s_thr s_log)=false∨¬ id≥0∨¬ id<s_thr.length:=by
      simp only [fabIs,Bool.and_eq_true,decide_eq_true_eq] at hI
      by_cases h1:fabCheck (State.mk (Config.mk s_lg s_th s_pol s_wt s_spin s_yld s_single) (Word.mk s_h s_t s_m) s_slots s_sends s_recvs (Event.mk s_fe s_fl) (Event.mk s_ee s_el) s_now s_thr s_log)=true
      · by_cases h2:id≥0
        · exact .inr (.inr fun h3=>hI ⟨⟨h1,h2⟩,h3⟩)
        · exact .inr (.inl h2)
      · exact .inl (by simpa using h1)
    clear hI
    rcases hI' with hI' | hI' | hI'
    all_goals refine mcb_of_vc mix x41 (by simp [F41]) fun hw _=>?_
    all_goals clear hw
    all_goals
      repeat' with_reducible first|refine gTn_of (fun h=>?_) (fun h=>?_)|refine gT_of (fun h=>?_) (fun h=>?_)|refine caseTn_of (fun h=>?_) (fun h=>?_)|refine caseT_of (fun h=>?_) (fun h=>?_)|refine FN ?_ ?_ ?_ ?_ rfl ?_|refine kv_ifn ?_ ?_|refine kv_if ?_ ?_|refine k_if ?_ ?_|refine I0 mix x80 lf80 ?_ ?_ ?_ ?_ ?_|refine I0 mix x79 lf79 ?_ ?_ ?_ ?_ ?_|refine I0 mix x84 lf84 ?_ ?_ ?_ ?_ ?_|refine IA ?_ ?_ ?_|refine L1 ?_ ?_|refine L2 ?_ ?_|refine L3 ?_ ?_ ?_ ?_|refine L4 ?_ ?_|refine L5 ?_ ?_ ?_ ?_ ?_|refine L6 ?_ ?_ ?_ ?_ ?_|refine P0 (con18 ?_ ?_ ?_ ?_ ?_ ?_ ?_) ?_ ?_ ?_|refine P0 (con129 ?_) ?_ ?_ ?_|refine ACV.of (con129 ?_) ?_ ?_ ?_|refine ACK.of (con129 ?_) ?_ ?_|refine P0 (con128 ?_) ?_ ?_ ?_|refine ACV.of (con128 ?_) ?_ ?_ ?_|refine ACK.of (con128 ?_) ?_ ?_|refine P0 (con131 ?_) ?_ ?_ ?_|refine ACV.of (con131 ?_) ?_ ?_ ?_|refine ACK.of (con131 ?_) ?_ ?_|refine P0 (con130 ?_) ?_ ?_ ?_|refine ACV.of (con130 ?_) ?_ ?_ ?_|refine ACK.of (con130 ?_) ?_ ?_|simp -implicitDefEqProofs only [F41,qA,ld_0,ld_pv,st_0,splice,doEqs,qU,List.reduceReplicate,Nat.reduceAdd,Nat.reduceSub,Nat.reduceLeDiff,Nat.reduceEqDiff,Nat.reduceMul,reduceIte,reduceCtorEq,qI,Nat.reduceLT,Nat.reduceBEq,F80,F79,F84,up_s,Int.toNat_natCast,encT, *]
    all_goals first
      | omega
      | exact Wk.refl _
      | trace_state

section
variable {P:Program} {m:AM} {b:Nat}
theorem fin_t {v:AV} {e:Ef} {t:Nat} (h:pickN 1 v.nms []=[t]) (h1:stOk 1 16 [] [(t,1)] m=true) (hw:v.tr (stT 1 16 [] [(t,1)] m)=e.1) (hm:stM 1 16 [] [(t,1)] (stT 1 16 [] [(t,1)] m) m=AM.upd [] e.2.1):FinS 1 [] e v m b :=
  fin_new [] [(t,1)] h1 rfl hw (by rw [hm])
end
end Go.Sak
