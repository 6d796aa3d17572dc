/- Part S75 of the proofs about the program: K86, K83. Conditions: none. -/
import Derived.Test.YtojlofaafkdhgaaGreatS74
import Derived.Test.YtojlofaafkdhgaaGreatS04
import Derived.Test.YtojlofaafkdhgaaGreatProg
import Derived.KernelRfl
import Derived.Test.YtojlofaafkdhgaaGreatS58
import Derived.Test.YtojlofaafkdhgaaGreatS30
import Derived.Test.YtojlofaafkdhgaaGreatS38
namespace Go.Sak
open Go Go.RowKit Go.Proofs
set_option linter.unusedVariables false
set_option linter.unusedSimpArgs false
set_option maxRecDepth 10000
set_option maxHeartbeats 8000000
theorem vna_len {e : Event} : (vNotifyAll e).1.ln.length ≤ e.ln.length ∧ (vNotifyAll e).2.length ≤ e.ln.length := by unfold vNotifyAll; split <;> simp
theorem con212_1 {s_lg s_th : Int} {s_pol s_wt : Int} {s_spin s_yld : Int} {s_single : Bool} {s_h s_t s_m : Int} {s_slots : List Slot} {s_sends s_recvs : List Int} {s_fe : Int} {s_fl : List Int} {s_ee : Int} {s_el : List Int} {s_now : Int} {s_thr : List Thread} {s_log : List Entry} {id : Int} (h1 : s_slots.length ≤ 100000000) (h2 : s_sends.length ≤ 100000000) (h3 : s_recvs.length ≤ 100000000) (h4 : s_fl.length ≤ 100000000) (h5 : s_el.length ≤ 100000000) (h6 : s_thr.length ≤ 100000000) (h7 : s_log.length ≤ 100000000) (hI : cIs (State.mk (Config.mk s_lg s_th s_pol s_wt s_spin s_yld s_single) (Word.mk s_h s_t s_m) s_slots s_sends s_recvs (Event.mk s_fe s_fl) (Event.mk s_ee s_el) s_now s_thr s_log) id = true) (hpc : (s_thr.getD id.toNat default).pc = 1) : Con Tryz.prog 212 [.agg [.int .i64 s_lg, .int .i64 s_th, .int .i64 s_pol, .int .i64 s_wt, .int .i64 s_spin, .int .i64 s_yld, .bool s_single, .int .i64 s_h, .int .i64 s_t, .int .i64 s_m, .slv 2 (s_slots.map encS), .slv 1 (s_sends.map encI), .slv 1 (s_recvs.map encI), .int .i64 s_fe, .slv 1 (s_fl.map encI), .int .i64 s_ee, .slv 1 (s_el.map encI), .int .i64 s_now, .slv 11 (s_thr.map encT), .slv 5 (s_log.map encE)], .int .i64 id] (.agg (encZ (cFull (State.mk (Config.mk s_lg s_th s_pol s_wt s_spin s_yld s_single) (Word.mk s_h s_t s_m) s_slots s_sends s_recvs (Event.mk s_fe s_fl) (Event.mk s_ee s_el) s_now s_thr s_log) id)), [], []) := by
  have hI' := hI
  simp only [cIs, fabIs, Bool.and_eq_true, decide_eq_true_eq] at hI'
  obtain ⟨⟨⟨⟨hchk, hge⟩, hlt⟩, hruns⟩, hside⟩ := hI'
  have hid : id.toNat < s_thr.length := by omega
  have hne : s_thr ≠ [] := by intro h; subst h; simp at hlt; omega
  have hv := @vna_len ⟨s_fe, s_fl⟩
  simp only [] at hv
  obtain ⟨⟨ep, ln⟩, l, hE⟩ : ∃ e l, vNotifyAll ⟨s_fe, s_fl⟩ = (e, l) := ⟨_, _, rfl⟩
  rw [hE] at hv
  simp only [] at hv
  have hln : ln.length ≤ 100000000 := by omega
  have hll : l.length ≤ 100000000 := by omega
  clear hv
  have hR : cFull (State.mk (Config.mk s_lg s_th s_pol s_wt s_spin s_yld s_single) (Word.mk s_h s_t s_m) s_slots s_sends s_recvs (Event.mk s_fe s_fl) (Event.mk s_ee s_el) s_now s_thr s_log) id = rAt (State.mk (Config.mk s_lg s_th s_pol s_wt s_spin s_yld s_single) (Word.mk s_h s_t s_m) s_slots s_sends s_recvs (Event.mk ep ln) (Event.mk s_ee s_el) s_now (wT (State.mk (Config.mk s_lg s_th s_pol s_wt s_spin s_yld s_single) (Word.mk s_h s_t s_m) s_slots s_sends s_recvs (Event.mk ep ln) (Event.mk s_ee s_el) s_now s_thr s_log) l) s_log) id 2 := by
    unfold cFull; simp only [hE]; rw [wakeAll_eq]; rfl
  rw [hR]
  clear hR
  have hwl := wT_len (s := (State.mk (Config.mk s_lg s_th s_pol s_wt s_spin s_yld s_single) (Word.mk s_h s_t s_m) s_slots s_sends s_recvs (Event.mk ep ln) (Event.mk s_ee s_el) s_now s_thr s_log)) l (State.mk (Config.mk s_lg s_th s_pol s_wt s_spin s_yld s_single) (Word.mk s_h s_t s_m) s_slots s_sends s_recvs (Event.mk ep ln) (Event.mk s_ee s_el) s_now s_thr s_log)
  generalize hTT : wT (State.mk (Config.mk s_lg s_th s_pol s_wt s_spin s_yld s_single) (Word.mk s_h s_t s_m) s_slots s_sends s_recvs (Event.mk ep ln) (Event.mk s_ee s_el) s_now s_thr s_log) l = TT at hwl ⊢
  have hwl2 : id.toNat < TT.length := by simp only [] at hwl; omega
  have hwl4 : (0 : Int) = 0 → TT.length = s_thr.length := fun _ => hwl
  have hnl : l = [] → TT = s_thr := fun e => by rw [← hTT, e]; rfl
  clear hwl
  refine mcb_of_vc mix x212 (by simp [F212]) fun hw _ => ?_
  clear hw
  repeat' with_reducible first | refine gTn_of (fun h => ?_) (fun h => ?_) | refine gT_of (fun h => ?_) (fun h => ?_) | refine caseTn_of (fun h => ?_) (fun h => ?_) | refine caseT_of (fun h => ?_) (fun h => ?_) | refine FN ?_ ?_ ?_ ?_ rfl ?_ | refine kv_ifn ?_ ?_ | refine kv_if ?_ ?_ | refine k_if ?_ ?_ | refine IA ?_ ?_ ?_ | refine L1 ?_ ?_ | refine L2 ?_ ?_ | refine L3 ?_ ?_ ?_ ?_ | refine L4 ?_ ?_ | refine L5 ?_ ?_ ?_ ?_ ?_ | refine L6 ?_ ?_ ?_ ?_ ?_ | refine N1 (con53m ?_ ?_ ?_ ?_ ?_ ?_ ?_ hne) ?_ ?_ | refine P0 (con236 ?_ ?_ ?_ ?_ ?_ ?_ ?_) ?_ ?_ ?_ | refine I3 mix x237 lf237 ?_ ?_ ?_ ?_ ?_ | refine inr_fin ?_ ?_ ?_ ?_ | refine wakeF h1 h2 h3 h4 h5 h6 h7 hne hE hln hll (by simp -implicitDefEqProofs only [qA, ld_0, ld_pv, st_0, splice, doEqs, qU, List.reduceReplicate, Nat.reduceAdd, Nat.reduceSub, Nat.reduceLeDiff, Nat.reduceEqDiff, Nat.reduceMul, reduceIte, reduceCtorEq, qI, Nat.reduceLT, Nat.reduceBEq, qM, *]; exact rfl) (fun hl => ?_) (fun hl => ?_) | simp -implicitDefEqProofs only [F212, qA, ld_0, ld_pv, st_0, splice, doEqs, qU, List.reduceReplicate, Nat.reduceAdd, Nat.reduceSub, Nat.reduceLeDiff, Nat.reduceEqDiff, Nat.reduceMul, reduceIte, reduceCtorEq, qI, Nat.reduceLT, Nat.reduceBEq, up_s, Int.toNat_natCast, encT, encX, encV, encW, hpc, hI, Int.reduceToNat, Nat.mul_one, tell_len, wake_len, Int.reduceLE, Int.reduceLT, Int.reduceEq, Int.reduceNe, Int.toNat_zero, Int.toNat_one, Int.le_refl, set_set, getD_set_same, F237, hTT, *]
  all_goals first
    | omega
    | (constructor <;> omega)
    | exact Wk.refl _
    | (refine Wk.of_eq ?_
       rw [List.take_of_length_le (by rw [List.length_map, List.length_set, hwl4 rfl]; exact Nat.le_refl _)]
       rfl)
    | (refine Wk.of_eq ?_
       rw [← hTT, hl]
       rfl)
    | trace_state

theorem con212_2 {s_lg s_th : Int} {s_pol s_wt : Int} {s_spin s_yld : Int} {s_single : Bool} {s_h s_t s_m : Int} {s_slots : List Slot} {s_sends s_recvs : List Int} {s_fe : Int} {s_fl : List Int} {s_ee : Int} {s_el : List Int} {s_now : Int} {s_thr : List Thread} {s_log : List Entry} {id : Int} (h1 : s_slots.length ≤ 100000000) (h2 : s_sends.length ≤ 100000000) (h3 : s_recvs.length ≤ 100000000) (h4 : s_fl.length ≤ 100000000) (h5 : s_el.length ≤ 100000000) (h6 : s_thr.length ≤ 100000000) (h7 : s_log.length ≤ 100000000) (hI : cIs (State.mk (Config.mk s_lg s_th s_pol s_wt s_spin s_yld s_single) (Word.mk s_h s_t s_m) s_slots s_sends s_recvs (Event.mk s_fe s_fl) (Event.mk s_ee s_el) s_now s_thr s_log) id = true) (hpc : ¬ (s_thr.getD id.toNat default).pc = 0 ∧ ¬ (s_thr.getD id.toNat default).pc = 1) : Con Tryz.prog 212 [.agg [.int .i64 s_lg, .int .i64 s_th, .int .i64 s_pol, .int .i64 s_wt, .int .i64 s_spin, .int .i64 s_yld, .bool s_single, .int .i64 s_h, .int .i64 s_t, .int .i64 s_m, .slv 2 (s_slots.map encS), .slv 1 (s_sends.map encI), .slv 1 (s_recvs.map encI), .int .i64 s_fe, .slv 1 (s_fl.map encI), .int .i64 s_ee, .slv 1 (s_el.map encI), .int .i64 s_now, .slv 11 (s_thr.map encT), .slv 5 (s_log.map encE)], .int .i64 id] (.agg (encZ (cEmpty (State.mk (Config.mk s_lg s_th s_pol s_wt s_spin s_yld s_single) (Word.mk s_h s_t s_m) s_slots s_sends s_recvs (Event.mk s_fe s_fl) (Event.mk s_ee s_el) s_now s_thr s_log) id)), [], []) := by
  have hI' := hI
  simp only [cIs, fabIs, Bool.and_eq_true, decide_eq_true_eq] at hI'
  obtain ⟨⟨⟨⟨hchk, hge⟩, hlt⟩, hruns⟩, hside⟩ := hI'
  have hid : id.toNat < s_thr.length := by omega
  have hne : s_thr ≠ [] := by intro h; subst h; simp at hlt; omega
  have hv := @vna_len ⟨s_ee, s_el⟩
  simp only [] at hv
  obtain ⟨⟨ep, ln⟩, l, hE⟩ : ∃ e l, vNotifyAll ⟨s_ee, s_el⟩ = (e, l) := ⟨_, _, rfl⟩
  rw [hE] at hv
  simp only [] at hv
  have hln : ln.length ≤ 100000000 := by omega
  have hll : l.length ≤ 100000000 := by omega
  clear hv
  have hR : cEmpty (State.mk (Config.mk s_lg s_th s_pol s_wt s_spin s_yld s_single) (Word.mk s_h s_t s_m) s_slots s_sends s_recvs (Event.mk s_fe s_fl) (Event.mk s_ee s_el) s_now s_thr s_log) id = put1 (State.mk (Config.mk s_lg s_th s_pol s_wt s_spin s_yld s_single) (Word.mk s_h s_t s_m) s_slots s_sends s_recvs (Event.mk s_fe s_fl) (Event.mk ep ln) s_now (wT (State.mk (Config.mk s_lg s_th s_pol s_wt s_spin s_yld s_single) (Word.mk s_h s_t s_m) s_slots s_sends s_recvs (Event.mk s_fe s_fl) (Event.mk ep ln) s_now s_thr s_log) l) s_log) id (tDone (me (State.mk (Config.mk s_lg s_th s_pol s_wt s_spin s_yld s_single) (Word.mk s_h s_t s_m) s_slots s_sends s_recvs (Event.mk s_fe s_fl) (Event.mk ep ln) s_now (wT (State.mk (Config.mk s_lg s_th s_pol s_wt s_spin s_yld s_single) (Word.mk s_h s_t s_m) s_slots s_sends s_recvs (Event.mk s_fe s_fl) (Event.mk ep ln) s_now s_thr s_log) l) s_log) id)).1 := by
    unfold cEmpty; simp only [hE]; rw [wakeAll_eq]; rfl
  rw [hR]
  clear hR
  have hwl := wT_len (s := (State.mk (Config.mk s_lg s_th s_pol s_wt s_spin s_yld s_single) (Word.mk s_h s_t s_m) s_slots s_sends s_recvs (Event.mk s_fe s_fl) (Event.mk ep ln) s_now s_thr s_log)) l (State.mk (Config.mk s_lg s_th s_pol s_wt s_spin s_yld s_single) (Word.mk s_h s_t s_m) s_slots s_sends s_recvs (Event.mk s_fe s_fl) (Event.mk ep ln) s_now s_thr s_log)
  generalize hTT : wT (State.mk (Config.mk s_lg s_th s_pol s_wt s_spin s_yld s_single) (Word.mk s_h s_t s_m) s_slots s_sends s_recvs (Event.mk s_fe s_fl) (Event.mk ep ln) s_now s_thr s_log) l = TT at hwl ⊢
  have hwl2 : id.toNat < TT.length := by simp only [] at hwl; omega
  have hwl4 : (0 : Int) = 0 → TT.length = s_thr.length := fun _ => hwl
  have hnl : l = [] → TT = s_thr := fun e => by rw [← hTT, e]; rfl
  clear hwl
  refine mcb_of_vc mix x212 (by simp [F212]) fun hw _ => ?_
  clear hw
  repeat' with_reducible first | refine gTn_of (fun h => ?_) (fun h => ?_) | refine gT_of (fun h => ?_) (fun h => ?_) | refine caseTn_of (fun h => ?_) (fun h => ?_) | refine caseT_of (fun h => ?_) (fun h => ?_) | refine FN ?_ ?_ ?_ ?_ rfl ?_ | refine kv_ifn ?_ ?_ | refine kv_if ?_ ?_ | refine k_if ?_ ?_ | refine IA ?_ ?_ ?_ | refine L1 ?_ ?_ | refine L2 ?_ ?_ | refine L3 ?_ ?_ ?_ ?_ | refine L4 ?_ ?_ | refine L5 ?_ ?_ ?_ ?_ ?_ | refine L6 ?_ ?_ ?_ ?_ ?_ | refine N1 (con53m ?_ ?_ ?_ ?_ ?_ ?_ ?_ hne) ?_ ?_ | refine P0 (con236 ?_ ?_ ?_ ?_ ?_ ?_ ?_) ?_ ?_ ?_ | refine I3 mix x237 lf237 ?_ ?_ ?_ ?_ ?_ | refine inr_fin ?_ ?_ ?_ ?_ | refine wakeE h1 h2 h3 h4 h5 h6 h7 hne hE hln hll (by simp -implicitDefEqProofs only [qA, ld_0, ld_pv, st_0, splice, doEqs, qU, List.reduceReplicate, Nat.reduceAdd, Nat.reduceSub, Nat.reduceLeDiff, Nat.reduceEqDiff, Nat.reduceMul, reduceIte, reduceCtorEq, qI, Nat.reduceLT, Nat.reduceBEq, qM, *]; exact rfl) (fun hl => ?_) (fun hl => ?_) | refine P0 (con147) ?_ ?_ ?_ | refine ACV.of (con147) ?_ ?_ ?_ | refine ACK.of (con147) ?_ ?_ | simp -implicitDefEqProofs only [F212, qA, ld_0, ld_pv, st_0, splice, doEqs, qU, List.reduceReplicate, Nat.reduceAdd, Nat.reduceSub, Nat.reduceLeDiff, Nat.reduceEqDiff, Nat.reduceMul, reduceIte, reduceCtorEq, qI, Nat.reduceLT, Nat.reduceBEq, up_s, Int.toNat_natCast, encT, encX, encV, encW, hpc, hI, Int.reduceToNat, Nat.mul_one, tell_len, wake_len, Int.reduceLE, Int.reduceLT, Int.reduceEq, Int.reduceNe, Int.toNat_zero, Int.toNat_one, Int.le_refl, set_set, getD_set_same, F237, hTT, *]
  all_goals first
    | omega
    | (constructor <;> omega)
    | exact Wk.refl _
    | (refine Wk.of_eq ?_
       rw [List.take_of_length_le (by rw [List.length_map, List.length_set, hwl4 rfl]; exact Nat.le_refl _)]
       rfl)
    | (refine Wk.of_eq ?_
       rw [← hTT, hl]
       rfl)
    | trace_state

end Go.Sak
namespace Go.Sak
open Go Go.RowKit Go.Proofs
set_option linter.unusedVariables false
set_option linter.unusedSimpArgs false
set_option maxRecDepth 10000
set_option maxHeartbeats 8000000
theorem con212_n {s_lg s_th : Int} {s_pol s_wt : Int} {s_spin s_yld : Int} {s_single : Bool} {s_h s_t s_m : Int} {s_slots : List Slot} {s_sends s_recvs : List Int} {s_fe : Int} {s_fl : List Int} {s_ee : Int} {s_el : List Int} {s_now : Int} {s_thr : List Thread} {s_log : List Entry} {id : Int} (h1 : s_slots.length ≤ 100000000) (h2 : s_sends.length ≤ 100000000) (h3 : s_recvs.length ≤ 100000000) (h4 : s_fl.length ≤ 100000000) (h5 : s_el.length ≤ 100000000) (h6 : s_thr.length ≤ 100000000) (h7 : s_log.length ≤ 100000000) (hI : cIs (State.mk (Config.mk s_lg s_th s_pol s_wt s_spin s_yld s_single) (Word.mk s_h s_t s_m) s_slots s_sends s_recvs (Event.mk s_fe s_fl) (Event.mk s_ee s_el) s_now s_thr s_log) id = false) : Con Tryz.prog 212 [.agg [.int .i64 s_lg, .int .i64 s_th, .int .i64 s_pol, .int .i64 s_wt, .int .i64 s_spin, .int .i64 s_yld, .bool s_single, .int .i64 s_h, .int .i64 s_t, .int .i64 s_m, .slv 2 (s_slots.map encS), .slv 1 (s_sends.map encI), .slv 1 (s_recvs.map encI), .int .i64 s_fe, .slv 1 (s_fl.map encI), .int .i64 s_ee, .slv 1 (s_el.map encI), .int .i64 s_now, .slv 11 (s_thr.map encT), .slv 5 (s_log.map encE)], .int .i64 id] (.agg (encZ (State.mk (Config.mk s_lg s_th s_pol s_wt s_spin s_yld s_single) (Word.mk s_h s_t s_m) s_slots s_sends s_recvs (Event.mk s_fe s_fl) (Event.mk s_ee s_el) s_now s_thr s_log)), [], []) := by
  refine mcb_of_vc mix x212 (by simp [F212]) fun hw _ => ?_
  clear hw
  repeat' with_reducible first | refine gTn_of (fun h => ?_) (fun h => ?_) | refine gT_of (fun h => ?_) (fun h => ?_) | refine caseTn_of (fun h => ?_) (fun h => ?_) | refine caseT_of (fun h => ?_) (fun h => ?_) | refine FN ?_ ?_ ?_ ?_ rfl ?_ | refine kv_ifn ?_ ?_ | refine kv_if ?_ ?_ | refine k_if ?_ ?_ | refine IA ?_ ?_ ?_ | refine L1 ?_ ?_ | refine L2 ?_ ?_ | refine L3 ?_ ?_ ?_ ?_ | refine L4 ?_ ?_ | refine L5 ?_ ?_ ?_ ?_ ?_ | refine L6 ?_ ?_ ?_ ?_ ?_ | refine P0 (con53 ?_ ?_ ?_ ?_ ?_ ?_ ?_) ?_ ?_ ?_ | refine P0 (con236 ?_ ?_ ?_ ?_ ?_ ?_ ?_) ?_ ?_ ?_ | simp -implicitDefEqProofs only [F212, qA, ld_0, ld_pv, st_0, splice, doEqs, qU, List.reduceReplicate, Nat.reduceAdd, Nat.reduceSub, Nat.reduceLeDiff, Nat.reduceEqDiff, Nat.reduceMul, reduceIte, reduceCtorEq, qI, Nat.reduceLT, Nat.reduceBEq, up_s, Int.toNat_natCast, encT, encZ, encX, hI, wake_m1, *]
  all_goals first
    | omega
    | exact Wk.refl _
    | trace_state

theorem con212 {s_lg s_th : Int} {s_pol s_wt : Int} {s_spin s_yld : Int} {s_single : Bool} {s_h s_t s_m : Int} {s_slots : List Slot} {s_sends s_recvs : List Int} {s_fe : Int} {s_fl : List Int} {s_ee : Int} {s_el : List Int} {s_now : Int} {s_thr : List Thread} {s_log : List Entry} {id : Int} (h1 : s_slots.length ≤ 100000000) (h2 : s_sends.length ≤ 100000000) (h3 : s_recvs.length ≤ 100000000) (h4 : s_fl.length ≤ 100000000) (h5 : s_el.length ≤ 100000000) (h6 : s_thr.length ≤ 100000000) (h7 : s_log.length ≤ 100000000) : Con Tryz.prog 212 [.agg [.int .i64 s_lg, .int .i64 s_th, .int .i64 s_pol, .int .i64 s_wt, .int .i64 s_spin, .int .i64 s_yld, .bool s_single, .int .i64 s_h, .int .i64 s_t, .int .i64 s_m, .slv 2 (s_slots.map encS), .slv 1 (s_sends.map encI), .slv 1 (s_recvs.map encI), .int .i64 s_fe, .slv 1 (s_fl.map encI), .int .i64 s_ee, .slv 1 (s_el.map encI), .int .i64 s_now, .slv 11 (s_thr.map encT), .slv 5 (s_log.map encE)], .int .i64 id] (.agg (encZ (cStep (State.mk (Config.mk s_lg s_th s_pol s_wt s_spin s_yld s_single) (Word.mk s_h s_t s_m) s_slots s_sends s_recvs (Event.mk s_fe s_fl) (Event.mk s_ee s_el) s_now s_thr s_log) id)), [], []) := by
  by_cases hI : cIs (State.mk (Config.mk s_lg s_th s_pol s_wt s_spin s_yld s_single) (Word.mk s_h s_t s_m) s_slots s_sends s_recvs (Event.mk s_fe s_fl) (Event.mk s_ee s_el) s_now s_thr s_log) id = true
  · by_cases h0 : (s_thr.getD id.toNat default).pc = 0
    · rw [show cStep (State.mk (Config.mk s_lg s_th s_pol s_wt s_spin s_yld s_single) (Word.mk s_h s_t s_m) s_slots s_sends s_recvs (Event.mk s_fe s_fl) (Event.mk s_ee s_el) s_now s_thr s_log) id = cShut (State.mk (Config.mk s_lg s_th s_pol s_wt s_spin s_yld s_single) (Word.mk s_h s_t s_m) s_slots s_sends s_recvs (Event.mk s_fe s_fl) (Event.mk s_ee s_el) s_now s_thr s_log) id from by unfold cStep; rw [if_neg (by simp [hI])]; exact if_pos h0]
      exact con212_0 h1 h2 h3 h4 h5 h6 h7 hI h0
    · by_cases h1' : (s_thr.getD id.toNat default).pc = 1
      · rw [show cStep (State.mk (Config.mk s_lg s_th s_pol s_wt s_spin s_yld s_single) (Word.mk s_h s_t s_m) s_slots s_sends s_recvs (Event.mk s_fe s_fl) (Event.mk s_ee s_el) s_now s_thr s_log) id = cFull (State.mk (Config.mk s_lg s_th s_pol s_wt s_spin s_yld s_single) (Word.mk s_h s_t s_m) s_slots s_sends s_recvs (Event.mk s_fe s_fl) (Event.mk s_ee s_el) s_now s_thr s_log) id from by unfold cStep; rw [if_neg (by simp [hI])]; exact (if_neg h0).trans (if_pos h1')]
        exact con212_1 h1 h2 h3 h4 h5 h6 h7 hI h1'
      · rw [show cStep (State.mk (Config.mk s_lg s_th s_pol s_wt s_spin s_yld s_single) (Word.mk s_h s_t s_m) s_slots s_sends s_recvs (Event.mk s_fe s_fl) (Event.mk s_ee s_el) s_now s_thr s_log) id = cEmpty (State.mk (Config.mk s_lg s_th s_pol s_wt s_spin s_yld s_single) (Word.mk s_h s_t s_m) s_slots s_sends s_recvs (Event.mk s_fe s_fl) (Event.mk s_ee s_el) s_now s_thr s_log) id from by unfold cStep; rw [if_neg (by simp [hI])]; exact (if_neg h0).trans (if_neg h1')]
        exact con212_2 h1 h2 h3 h4 h5 h6 h7 hI ⟨h0, h1'⟩
  · have hs : cStep (State.mk (Config.mk s_lg s_th s_pol s_wt s_spin s_yld s_single) (Word.mk s_h s_t s_m) s_slots s_sends s_recvs (Event.mk s_fe s_fl) (Event.mk s_ee s_el) s_now s_thr s_log) id = (State.mk (Config.mk s_lg s_th s_pol s_wt s_spin s_yld s_single) (Word.mk s_h s_t s_m) s_slots s_sends s_recvs (Event.mk s_fe s_fl) (Event.mk s_ee s_el) s_now s_thr s_log) := by unfold cStep; rw [if_pos (by simp [hI])]
    rw [hs]
    exact con212_n h1 h2 h3 h4 h5 h6 h7 (by simpa using hI)
theorem con212s {s : State} {id : Int} (h : Bd s 100000000) : Con Tryz.prog 212 [.agg (encZ s), .int .i64 id] (.agg (encZ (cStep s id)), [], []) := by
  obtain ⟨h1, h2, h3, h4, h5, h6, h7⟩ := h.all
  exact con212 h1 h2 h3 h4 h5 h6 h7
theorem bd_wakeAll : ∀ (l : List Int) {s : State} {k : Nat}, Bd s k → Bd (wakeAll s l) k
  | [], _, _, h => h
  | x :: l, _, _, h => bd_wakeAll l (bd_wake h)
theorem bd_cStep {s : State} {k : Nat} {id : Int} (h : Bd s k) : Bd (cStep s id) (k + 1) := by
  have h' := h.mono (Nat.le_succ k)
  have hb := h
  unfold Bd at hb
  unfold cStep; split
  · exact h'
  · split
    · exact bd_rTell (bd_word h)
    · split
      · exact bd_rAt (bd_wakeAll _ (bd_full h' (by have := @vna_len s.full; omega)))
      · exact bd_put1 (bd_wakeAll _ (bd_empty h' (by have := @vna_len s.empty; omega)))
theorem bd_pPick {s : State} {k : Nat} {id : Int} (h : Bd s k) : Bd (pPick s id).1 (k + 1) := by
  have h' := h.mono (Nat.le_succ k)
  unfold pPick; split
  · exact h'
  · split
    · exact h'
    · split
      · exact h'
      · show Bd (pSide s id) (k + 1)
        unfold pSide; split
        · exact bd_sStep h
        · split
          · exact bd_gStep h
          · exact bd_cStep h
theorem bd_pSome1 {a : State × Int} {k : Nat} {id : Int} (h : Bd a.1 k) : Bd (pSome1 a id).1 (k + 1) := by
  unfold pSome1; split
  · exact bd_pPick h
  · exact h.mono (Nat.le_succ k)
theorem bd_pSome {s : State} {k : Nat} (l : List Int) (h : Bd s k) : Bd (pSome s l).1 (k + l.length) := by
  have gen : ∀ (l : List Int) (a : State × Int) (k : Nat), Bd a.1 k → Bd (l.foldl pSome1 a).1 (k + l.length) := by
    intro l
    induction l with
    | nil => intro a k h; exact h
    | cons x l ih =>
      intro a k h
      exact (ih _ _ (bd_pSome1 (id := x) h)).mono (by simp only [List.length_cons]; omega)
  exact gen l (s, 0) k h
end Go.Sak
