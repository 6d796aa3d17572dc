/- Part S58 of the proofs about the program: K60, K61. Conditions: none. -/
import Derived.Test.YtojlofaafkdhgaaGreatS52
import Derived.Test.YtojlofaafkdhgaaGreatS53
import Derived.Test.YtojlofaafkdhgaaGreatS55
import Derived.Test.YtojlofaafkdhgaaGreatS56
import Derived.Test.YtojlofaafkdhgaaGreatS57
import Derived.Test.YtojlofaafkdhgaaGreatS30
import Derived.Test.YtojlofaafkdhgaaGreatS04
import Derived.Test.YtojlofaafkdhgaaGreatProg
import Derived.KernelRfl
import Derived.Test.YtojlofaafkdhgaaGreatS47
namespace Go.Sak
open Go Go.RowKit Go.Proofs
set_option linter.unusedVariables false
set_option linter.unusedSimpArgs false
set_option maxRecDepth 10000
set_option maxHeartbeats 8000000
theorem con42_n {s_lg s_th : Int} {s_pol s_wt : Int} {s_spin s_yld : Int} {s_single : Bool} {s_h s_t s_m : Int} {s_slots : List Slot} {s_sends s_recvs : List Int} {s_fe : Int} {s_fl : List Int} {s_ee : Int} {s_el : List Int} {s_now : Int} {s_thr : List Thread} {s_log : List Entry} {id : Int} (h1 : s_slots.length ≤ 100000000) (h2 : s_sends.length ≤ 100000000) (h3 : s_recvs.length ≤ 100000000) (h4 : s_fl.length ≤ 100000000) (h5 : s_el.length ≤ 100000000) (h6 : s_thr.length ≤ 100000000) (h7 : s_log.length ≤ 100000000) (hI : gIs (State.mk (Config.mk s_lg s_th s_pol s_wt s_spin s_yld s_single) (Word.mk s_h s_t s_m) s_slots s_sends s_recvs (Event.mk s_fe s_fl) (Event.mk s_ee s_el) s_now s_thr s_log) id = false) : Con Tryz.prog 42 [.agg [.int .i64 s_lg, .int .i64 s_th, .int .i64 s_pol, .int .i64 s_wt, .int .i64 s_spin, .int .i64 s_yld, .bool s_single, .int .i64 s_h, .int .i64 s_t, .int .i64 s_m, .slv 2 (s_slots.map encS), .slv 1 (s_sends.map encI), .slv 1 (s_recvs.map encI), .int .i64 s_fe, .slv 1 (s_fl.map encI), .int .i64 s_ee, .slv 1 (s_el.map encI), .int .i64 s_now, .slv 11 (s_thr.map encT), .slv 5 (s_log.map encE)], .int .i64 id] (.agg (encZ (State.mk (Config.mk s_lg s_th s_pol s_wt s_spin s_yld s_single) (Word.mk s_h s_t s_m) s_slots s_sends s_recvs (Event.mk s_fe s_fl) (Event.mk s_ee s_el) s_now s_thr s_log)), [], []) := by
  refine mcb_of_vc mix x42 (by simp [F42]) fun hw _ => ?_
  clear hw
  repeat' with_reducible first | refine gTn_of (fun h => ?_) (fun h => ?_) | refine gT_of (fun h => ?_) (fun h => ?_) | refine caseTn_of (fun h => ?_) (fun h => ?_) | refine caseT_of (fun h => ?_) (fun h => ?_) | refine FN ?_ ?_ ?_ ?_ rfl ?_ | refine kv_ifn ?_ ?_ | refine kv_if ?_ ?_ | refine k_if ?_ ?_ | refine IA ?_ ?_ ?_ | refine L1 ?_ ?_ | refine L2 ?_ ?_ | refine L3 ?_ ?_ ?_ ?_ | refine L4 ?_ ?_ | refine L5 ?_ ?_ ?_ ?_ ?_ | refine L6 ?_ ?_ ?_ ?_ ?_ | refine P0 (con53 ?_ ?_ ?_ ?_ ?_ ?_ ?_) ?_ ?_ ?_ | refine P0 (con112 ?_ ?_ ?_ ?_ ?_ ?_ ?_) ?_ ?_ ?_ | simp -implicitDefEqProofs only [F42, qA, ld_0, ld_pv, st_0, splice, doEqs, qU, List.reduceReplicate, Nat.reduceAdd, Nat.reduceSub, Nat.reduceLeDiff, Nat.reduceEqDiff, Nat.reduceMul, reduceIte, reduceCtorEq, qI, Nat.reduceLT, Nat.reduceBEq, up_s, Int.toNat_natCast, encT, encZ, encX, hI, wake_m1, *]
  all_goals first
    | omega
    | exact Wk.refl _
    | trace_state

theorem con42 {s_lg s_th : Int} {s_pol s_wt : Int} {s_spin s_yld : Int} {s_single : Bool} {s_h s_t s_m : Int} {s_slots : List Slot} {s_sends s_recvs : List Int} {s_fe : Int} {s_fl : List Int} {s_ee : Int} {s_el : List Int} {s_now : Int} {s_thr : List Thread} {s_log : List Entry} {id : Int} (h1 : s_slots.length ≤ 100000000) (h2 : s_sends.length ≤ 100000000) (h3 : s_recvs.length ≤ 100000000) (h4 : s_fl.length ≤ 100000000) (h5 : s_el.length ≤ 100000000) (h6 : s_thr.length ≤ 100000000) (h7 : s_log.length ≤ 100000000) : Con Tryz.prog 42 [.agg [.int .i64 s_lg, .int .i64 s_th, .int .i64 s_pol, .int .i64 s_wt, .int .i64 s_spin, .int .i64 s_yld, .bool s_single, .int .i64 s_h, .int .i64 s_t, .int .i64 s_m, .slv 2 (s_slots.map encS), .slv 1 (s_sends.map encI), .slv 1 (s_recvs.map encI), .int .i64 s_fe, .slv 1 (s_fl.map encI), .int .i64 s_ee, .slv 1 (s_el.map encI), .int .i64 s_now, .slv 11 (s_thr.map encT), .slv 5 (s_log.map encE)], .int .i64 id] (.agg (encZ (gStep (State.mk (Config.mk s_lg s_th s_pol s_wt s_spin s_yld s_single) (Word.mk s_h s_t s_m) s_slots s_sends s_recvs (Event.mk s_fe s_fl) (Event.mk s_ee s_el) s_now s_thr s_log) id)), [], []) := by
  by_cases hI : gIs (State.mk (Config.mk s_lg s_th s_pol s_wt s_spin s_yld s_single) (Word.mk s_h s_t s_m) s_slots s_sends s_recvs (Event.mk s_fe s_fl) (Event.mk s_ee s_el) s_now s_thr s_log) id = true
  · have hp := pc_of (s := (State.mk (Config.mk s_lg s_th s_pol s_wt s_spin s_yld s_single) (Word.mk s_h s_t s_m) s_slots s_sends s_recvs (Event.mk s_fe s_fl) (Event.mk s_ee s_el) s_now s_thr s_log)) (id := id) (gIs_fab hI)
    simp only [me] at hp
    have hs : gStep (State.mk (Config.mk s_lg s_th s_pol s_wt s_spin s_yld s_single) (Word.mk s_h s_t s_m) s_slots s_sends s_recvs (Event.mk s_fe s_fl) (Event.mk s_ee s_el) s_now s_thr s_log) id = (match (s_thr.getD id.toNat default).pc.toNat with | 0 => gEnter (State.mk (Config.mk s_lg s_th s_pol s_wt s_spin s_yld s_single) (Word.mk s_h s_t s_m) s_slots s_sends s_recvs (Event.mk s_fe s_fl) (Event.mk s_ee s_el) s_now s_thr s_log) id | 1 => gFirst (State.mk (Config.mk s_lg s_th s_pol s_wt s_spin s_yld s_single) (Word.mk s_h s_t s_m) s_slots s_sends s_recvs (Event.mk s_fe s_fl) (Event.mk s_ee s_el) s_now s_thr s_log) id | 2 => gLook (State.mk (Config.mk s_lg s_th s_pol s_wt s_spin s_yld s_single) (Word.mk s_h s_t s_m) s_slots s_sends s_recvs (Event.mk s_fe s_fl) (Event.mk s_ee s_el) s_now s_thr s_log) id | 3 => gTake (State.mk (Config.mk s_lg s_th s_pol s_wt s_spin s_yld s_single) (Word.mk s_h s_t s_m) s_slots s_sends s_recvs (Event.mk s_fe s_fl) (Event.mk s_ee s_el) s_now s_thr s_log) id | 4 => gRead (State.mk (Config.mk s_lg s_th s_pol s_wt s_spin s_yld s_single) (Word.mk s_h s_t s_m) s_slots s_sends s_recvs (Event.mk s_fe s_fl) (Event.mk s_ee s_el) s_now s_thr s_log) id | 5 => gPrepare (State.mk (Config.mk s_lg s_th s_pol s_wt s_spin s_yld s_single) (Word.mk s_h s_t s_m) s_slots s_sends s_recvs (Event.mk s_fe s_fl) (Event.mk s_ee s_el) s_now s_thr s_log) id | 6 => gNotify (State.mk (Config.mk s_lg s_th s_pol s_wt s_spin s_yld s_single) (Word.mk s_h s_t s_m) s_slots s_sends s_recvs (Event.mk s_fe s_fl) (Event.mk s_ee s_el) s_now s_thr s_log) id | 7 => gAgain (State.mk (Config.mk s_lg s_th s_pol s_wt s_spin s_yld s_single) (Word.mk s_h s_t s_m) s_slots s_sends s_recvs (Event.mk s_fe s_fl) (Event.mk s_ee s_el) s_now s_thr s_log) id | 8 => gCommit (State.mk (Config.mk s_lg s_th s_pol s_wt s_spin s_yld s_single) (Word.mk s_h s_t s_m) s_slots s_sends s_recvs (Event.mk s_fe s_fl) (Event.mk s_ee s_el) s_now s_thr s_log) id | _ => gLeave (State.mk (Config.mk s_lg s_th s_pol s_wt s_spin s_yld s_single) (Word.mk s_h s_t s_m) s_slots s_sends s_recvs (Event.mk s_fe s_fl) (Event.mk s_ee s_el) s_now s_thr s_log) id) := by
      unfold gStep
      rw [if_neg (by simp [hI])]
      rfl
    rw [hs]
    have hc : (s_thr.getD id.toNat default).pc = 0 ∨ (s_thr.getD id.toNat default).pc = 1 ∨ (s_thr.getD id.toNat default).pc = 2 ∨ (s_thr.getD id.toNat default).pc = 3 ∨ (s_thr.getD id.toNat default).pc = 4 ∨ (s_thr.getD id.toNat default).pc = 5 ∨ (s_thr.getD id.toNat default).pc = 6 ∨ (s_thr.getD id.toNat default).pc = 7 ∨ (s_thr.getD id.toNat default).pc = 8 ∨ (s_thr.getD id.toNat default).pc = 9 ∨ (s_thr.getD id.toNat default).pc = 10 ∨ (s_thr.getD id.toNat default).pc = 11 := by omega
    rcases hc with hc | hc | hc | hc | hc | hc | hc | hc | hc | hc | hc | hc
    · rw [hc]; exact con42_0 h1 h2 h3 h4 h5 h6 h7 hI hc
    · rw [hc]; exact con42_1 h1 h2 h3 h4 h5 h6 h7 hI hc
    · rw [hc]; exact con42_2 h1 h2 h3 h4 h5 h6 h7 hI hc
    · rw [hc]; exact con42_3 h1 h2 h3 h4 h5 h6 h7 hI hc
    · rw [hc]; exact con42_4 h1 h2 h3 h4 h5 h6 h7 hI hc
    · rw [hc]; exact con42_5 h1 h2 h3 h4 h5 h6 h7 hI hc
    · rw [hc]; exact con42_6 h1 h2 h3 h4 h5 h6 h7 hI hc
    · rw [hc]; exact con42_7 h1 h2 h3 h4 h5 h6 h7 hI hc
    · rw [hc]; exact con42_8 h1 h2 h3 h4 h5 h6 h7 hI hc
    · rw [hc]; exact con42_9 h1 h2 h3 h4 h5 h6 h7 hI hc
    · rw [hc]; exact con42_10 h1 h2 h3 h4 h5 h6 h7 hI hc
    · rw [hc]; exact con42_11 h1 h2 h3 h4 h5 h6 h7 hI hc
  · have hs : gStep (State.mk (Config.mk s_lg s_th s_pol s_wt s_spin s_yld s_single) (Word.mk s_h s_t s_m) s_slots s_sends s_recvs (Event.mk s_fe s_fl) (Event.mk s_ee s_el) s_now s_thr s_log) id = (State.mk (Config.mk s_lg s_th s_pol s_wt s_spin s_yld s_single) (Word.mk s_h s_t s_m) s_slots s_sends s_recvs (Event.mk s_fe s_fl) (Event.mk s_ee s_el) s_now s_thr s_log) := by unfold gStep; rw [if_pos (by simp [hI])]
    rw [hs]
    exact con42_n h1 h2 h3 h4 h5 h6 h7 (by simpa using hI)

theorem con42s {s : State} {id : Int} (h : Bd s 100000000) : Con Tryz.prog 42 [.agg (encZ s), .int .i64 id] (.agg (encZ (gStep s id)), [], []) := by
  obtain ⟨h1, h2, h3, h4, h5, h6, h7⟩ := h.all
  exact con42 h1 h2 h3 h4 h5 h6 h7
theorem bd_gStep {s : State} {k : Nat} {id : Int} (h : Bd s k) : Bd (gStep s id) (k + 1) := by
  have h' := h.mono (Nat.le_succ k)
  have hb := h
  unfold Bd at hb
  obtain ⟨b1, b2, b3, b4, b5, b6, b7⟩ := hb
  unfold gStep
  split
  · exact h'
  · split
    · exact bd_rAt (bd_recvs h' (by have := @lEnter_len s.recvs id; omega))
    · unfold gFirst; split
      · exact bd_rAt h'
      · split
        · exact bd_rEnds h
        · exact bd_rOn h'
    · unfold gLook; split
      · exact bd_rAt h'
      · split
        · unfold gVain; split
          · exact bd_rEnds h
          · split
            · exact bd_rEnds h
            · split
              · exact bd_rAt h'
              · exact bd_rOn h'
        · exact bd_rEnds h
    · unfold gTake; simp only []; split
      · exact bd_rTell (bd_put1 (bd_word h))
      · split
        · exact bd_rAt h'
        · exact bd_rEnds h
    · exact bd_rAt (bd_slots (bd_put1 h') (by rw [slotRelease_len]; omega))
    · exact bd_rAt (bd_put1 h')
    · unfold gNotify; simp only []
      have he : Bd (withFull s (vNotify s.full).1) (k + 1) := bd_full h' (by have := @vNotify_len s.full; omega)
      split
      · exact bd_rAt (bd_wake he)
      · exact bd_rAt he
    · unfold gAgain; split <;> exact bd_rAt h'
    · unfold gCommit; split
      · exact bd_rAt h'
      · simp only []
        have he : Bd (withEmpty s (vCommit s.empty (me s id).seen id).1) (k + 1) := bd_empty h' (by have := @vCommit_len s.empty (me s id).seen id; omega)
        split
        · exact bd_put1 he
        · exact bd_rAt he
    · exact bd_put1 (bd_recvs h' (by have := @lLeave_len s.recvs id; omega))
end Go.Sak
namespace Go.Sak
open Go Go.RowKit Go.Proofs
set_option linter.unusedVariables false
set_option linter.unusedSimpArgs false
set_option maxRecDepth 10000
set_option maxHeartbeats 8000000
end Go.Sak
