/- Part S74 of the proofs about the program: K82. Conditions: none. -/
import Derived.Test.YtojlofaafkdhgaaGreatS73
import Derived.Test.YtojlofaafkdhgaaGreatS47
import Derived.Test.YtojlofaafkdhgaaGreatS04
import Derived.Test.YtojlofaafkdhgaaGreatProg
import Derived.KernelRfl
namespace Go.Sak
open Go Go.RowKit Go.Proofs
set_option linter.unusedVariables false
set_option linter.unusedSimpArgs false
set_option maxRecDepth 10000
set_option maxHeartbeats 8000000
def wT (s : State) (l : List Int) : List Thread := (wakeAll s l).threads
theorem wakeAll_eq : ∀ (l : List Int) (s : State), wakeAll s l = ⟨s.cfg, s.word, s.slots, s.sends, s.recvs, s.full, s.empty, s.now, wT s l, s.log⟩
  | [], s => rfl
  | x :: l, s => by
    have := wakeAll_eq l (fabWake s x)
    rw [tw_cfg, tw_word, tw_slots, tw_sends, tw_recvs, tw_full, tw_empty, tw_now, tw_log] at this
    exact this
theorem wT_s {s : State} {l : List Int} {k : Nat} (hk : k < l.length) : (fabWake ⟨s.cfg, s.word, s.slots, s.sends, s.recvs, s.full, s.empty, s.now, wT s (l.take k), s.log⟩ (l.getD k default)).threads = wT s (l.take (k + 1)) := by
  rw [← wakeAll_eq, take_s hk]
  unfold wT wakeAll
  rw [List.foldl_append]; rfl
theorem wT_len {s : State} : ∀ (l : List Int) (s : State), (wT s l).length = s.threads.length
  | [], s => rfl
  | x :: l, s => (wT_len (s := s) l (fabWake s x)).trans wake_len'
theorem wakeF {s_lg s_th : Int} {s_pol s_wt : Int} {s_spin s_yld : Int} {s_single : Bool} {s_h s_t s_m : Int} {s_slots : List Slot} {s_sends s_recvs : List Int} {s_fe : Int} {s_fl : List Int} {s_ee : Int} {s_el : List Int} {s_now : Int} {s_thr : List Thread} {s_log : List Entry} {id ep : Int} {ln l : List Int} (h1 : s_slots.length ≤ 100000000) (h2 : s_sends.length ≤ 100000000) (h3 : s_recvs.length ≤ 100000000) (h4 : s_fl.length ≤ 100000000) (h5 : s_el.length ≤ 100000000) (h6 : s_thr.length ≤ 100000000) (h7 : s_log.length ≤ 100000000) (hne : s_thr ≠ []) (hE : vNotifyAll ⟨s_fe, s_fl⟩ = (⟨ep, ln⟩, l)) (hln : ln.length ≤ 100000000) (hll : l.length ≤ 100000000) {M : AM} {κ : Ef → Prop}
    (hM : restM M (reachM M (pickN 1 (nmsL [.ptr 97 0 0, .ptr 97 0 13]) [])) = [(97, .rows 189 21 [[.int .i64 s_lg, .int .i64 s_th, .int .i64 s_pol, .int .i64 s_wt, .int .i64 s_spin, .int .i64 s_yld, .bool s_single, .int .i64 s_h, .int .i64 s_t, .int .i64 s_m, .slv 2 (s_slots.map encS), .slv 1 (s_sends.map encI), .slv 1 (s_recvs.map encI), .int .i64 s_fe, .slv 1 (s_fl.map encI), .int .i64 s_ee, .slv 1 (s_el.map encI), .int .i64 s_now, .slm 49 s_thr.length, .slv 5 (s_log.map encE), .int .i64 id]]), (49, .rows 44 11 (s_thr.map encT))])
    (h8 : l = [] → κ (.tup [], [(97, none), (49, none)] ++ [(97, .rows 189 21 [[.int .i64 s_lg, .int .i64 s_th, .int .i64 s_pol, .int .i64 s_wt, .int .i64 s_spin, .int .i64 s_yld, .bool s_single, .int .i64 s_h, .int .i64 s_t, .int .i64 s_m, .slv 2 (s_slots.map encS), .slv 1 (s_sends.map encI), .slv 1 (s_recvs.map encI), .int .i64 ep, .slv 1 (ln.map encI), .int .i64 s_ee, .slv 1 (s_el.map encI), .int .i64 s_now, .slm 49 s_thr.length, .slv 5 (s_log.map encE), .int .i64 id]]), (49, .rows 44 11 (s_thr.map encT))].map (fun p => (p.1, some p.2)), [97, 49]))
    (h9 : l ≠ [] → κ (.tup [], [(97, none), (49, none)] ++ [(97, .rows 189 21 [[.int .i64 s_lg, .int .i64 s_th, .int .i64 s_pol, .int .i64 s_wt, .int .i64 s_spin, .int .i64 s_yld, .bool s_single, .int .i64 s_h, .int .i64 s_t, .int .i64 s_m, .slv 2 (s_slots.map encS), .slv 1 (s_sends.map encI), .slv 1 (s_recvs.map encI), .int .i64 ep, .slv 1 (ln.map encI), .int .i64 s_ee, .slv 1 (s_el.map encI), .int .i64 s_now, .slm 417 s_thr.length, .slv 5 (s_log.map encE), .int .i64 id]]), (417, .rows 44 11 ((wT (State.mk (Config.mk s_lg s_th s_pol s_wt s_spin s_yld s_single) (Word.mk s_h s_t s_m) s_slots s_sends s_recvs (Event.mk ep ln) (Event.mk s_ee s_el) s_now s_thr s_log) l).map encT))].map (fun p => (p.1, some p.2)), [97, 49])) : AC Tryz.prog 239 [.ptr 97 0 0, .ptr 97 0 13] M 417 κ := by
  by_cases hl : l = []
  · have k := h8 hl
    clear h8 h9
    refine AC.inlD mix x239 (by simp [F239]) (by omega) hM (by simp -implicitDefEqProofs only [qA, ld_0, ld_pv, st_0, splice, doEqs, qU, List.reduceReplicate, Nat.reduceAdd, Nat.reduceSub, Nat.reduceLeDiff, Nat.reduceEqDiff, Nat.reduceMul, reduceIte, reduceCtorEq, qI, Nat.reduceLT, Nat.reduceBEq]; first | done | exact rfl) (by simp -implicitDefEqProofs only [qA, ld_0, ld_pv, st_0, splice, doEqs, qU, List.reduceReplicate, Nat.reduceAdd, Nat.reduceSub, Nat.reduceLeDiff, Nat.reduceEqDiff, Nat.reduceMul, reduceIte, reduceCtorEq, qI, Nat.reduceLT, Nat.reduceBEq]; first | done | exact rfl) (by simp -implicitDefEqProofs only [qA, ld_0, ld_pv, st_0, splice, doEqs, qU, List.reduceReplicate, Nat.reduceAdd, Nat.reduceSub, Nat.reduceLeDiff, Nat.reduceEqDiff, Nat.reduceMul, reduceIte, reduceCtorEq, qI, Nat.reduceLT, Nat.reduceBEq]; first | done | exact rfl) ⟨[], [(97, .rows 189 21 [[.int .i64 s_lg, .int .i64 s_th, .int .i64 s_pol, .int .i64 s_wt, .int .i64 s_spin, .int .i64 s_yld, .bool s_single, .int .i64 s_h, .int .i64 s_t, .int .i64 s_m, .slv 2 (s_slots.map encS), .slv 1 (s_sends.map encI), .slv 1 (s_recvs.map encI), .int .i64 ep, .slv 1 (ln.map encI), .int .i64 s_ee, .slv 1 (s_el.map encI), .int .i64 s_now, .slm 49 s_thr.length, .slv 5 (s_log.map encE), .int .i64 id]]), (49, .rows 44 11 (s_thr.map encT))] ++ [(529, .rows 29 2 [[.int .i64 ep, .slv 1 (ln.map encI)]])], 705, ?_, fun e he => ?_⟩
    · refine ⟨[], [], ?_, ?_, ?_, ?_⟩
      all_goals simp -implicitDefEqProofs only [qA, ld_0, ld_pv, st_0, splice, doEqs, qU, List.reduceReplicate, Nat.reduceAdd, Nat.reduceSub, Nat.reduceLeDiff, Nat.reduceEqDiff, Nat.reduceMul, reduceIte, reduceCtorEq, qI, Nat.reduceLT, Nat.reduceBEq]
      all_goals first
        | done
        | exact k
        | trace_state
    · subst hl
      clear k hM
      repeat' with_reducible first | refine gTn_of (fun h => ?_) (fun h => ?_) | refine gT_of (fun h => ?_) (fun h => ?_) | refine caseTn_of (fun h => ?_) (fun h => ?_) | refine caseT_of (fun h => ?_) (fun h => ?_) | refine FN ?_ ?_ ?_ ?_ rfl ?_ | refine kv_ifn ?_ ?_ | refine kv_if ?_ ?_ | refine k_if ?_ ?_ | refine IA ?_ ?_ ?_ | refine L1 ?_ ?_ | refine L2 ?_ ?_ | refine L3 ?_ ?_ ?_ ?_ | refine L4 ?_ ?_ | refine L5 ?_ ?_ ?_ ?_ ?_ | refine L6 ?_ ?_ ?_ ?_ ?_ | refine P0 (con256 ?_) ?_ ?_ ?_ | refine lp_unroll 1 ?_ ?_ | refine And.intro (Nat.le_of_ble_eq_true rfl) ?_ | simp -implicitDefEqProofs only [F239, qA, ld_0, ld_pv, st_0, splice, doEqs, qU, List.reduceReplicate, Nat.reduceAdd, Nat.reduceSub, Nat.reduceLeDiff, Nat.reduceEqDiff, Nat.reduceMul, reduceIte, reduceCtorEq, qI, Nat.reduceLT, Nat.reduceBEq, up_s, Int.toNat_natCast, encT, encV, encI, encX, hE, Int.lt_irrefl, Int.toNat_zero, Int.reduceLT, lm_normal, lm_exit, lm_ret, Int.natCast_zero, *]
      all_goals first
        | exact he
        | trace_state
  · have k := h9 hl
    clear h8 h9
    refine AC.inlD mix x239 (by simp [F239]) (by omega) hM (by simp -implicitDefEqProofs only [qA, ld_0, ld_pv, st_0, splice, doEqs, qU, List.reduceReplicate, Nat.reduceAdd, Nat.reduceSub, Nat.reduceLeDiff, Nat.reduceEqDiff, Nat.reduceMul, reduceIte, reduceCtorEq, qI, Nat.reduceLT, Nat.reduceBEq]; first | done | exact rfl) (by simp -implicitDefEqProofs only [qA, ld_0, ld_pv, st_0, splice, doEqs, qU, List.reduceReplicate, Nat.reduceAdd, Nat.reduceSub, Nat.reduceLeDiff, Nat.reduceEqDiff, Nat.reduceMul, reduceIte, reduceCtorEq, qI, Nat.reduceLT, Nat.reduceBEq]; first | done | exact rfl) (by simp -implicitDefEqProofs only [qA, ld_0, ld_pv, st_0, splice, doEqs, qU, List.reduceReplicate, Nat.reduceAdd, Nat.reduceSub, Nat.reduceLeDiff, Nat.reduceEqDiff, Nat.reduceMul, reduceIte, reduceCtorEq, qI, Nat.reduceLT, Nat.reduceBEq]; first | done | exact rfl) ⟨[], [(97, .rows 189 21 [[.int .i64 s_lg, .int .i64 s_th, .int .i64 s_pol, .int .i64 s_wt, .int .i64 s_spin, .int .i64 s_yld, .bool s_single, .int .i64 s_h, .int .i64 s_t, .int .i64 s_m, .slv 2 (s_slots.map encS), .slv 1 (s_sends.map encI), .slv 1 (s_recvs.map encI), .int .i64 ep, .slv 1 (ln.map encI), .int .i64 s_ee, .slv 1 (s_el.map encI), .int .i64 s_now, .slm 417 s_thr.length, .slv 5 (s_log.map encE), .int .i64 id]]), (417, .rows 44 11 ((wT (State.mk (Config.mk s_lg s_th s_pol s_wt s_spin s_yld s_single) (Word.mk s_h s_t s_m) s_slots s_sends s_recvs (Event.mk ep ln) (Event.mk s_ee s_el) s_now s_thr s_log) l).map encT))], 436, ?_, fun e he => ?_⟩
    · refine ⟨[], [(417, 417)], ?_, ?_, ?_, ?_⟩
      all_goals simp -implicitDefEqProofs only [qA, ld_0, ld_pv, st_0, splice, doEqs, qU, List.reduceReplicate, Nat.reduceAdd, Nat.reduceSub, Nat.reduceLeDiff, Nat.reduceEqDiff, Nat.reduceMul, reduceIte, reduceCtorEq, qI, Nat.reduceLT, Nat.reduceBEq]
      all_goals first
        | done
        | exact k
        | trace_state
    · have hpos : 0 < l.length := List.length_pos_iff.2 hl
      clear k hM
      repeat' with_reducible first | refine gTn_of (fun h => ?_) (fun h => ?_) | refine gT_of (fun h => ?_) (fun h => ?_) | refine caseTn_of (fun h => ?_) (fun h => ?_) | refine caseT_of (fun h => ?_) (fun h => ?_) | refine FN ?_ ?_ ?_ ?_ rfl ?_ | refine kv_ifn ?_ ?_ | refine kv_if ?_ ?_ | refine k_if ?_ ?_ | refine IA ?_ ?_ ?_ | refine L1 ?_ ?_ | refine L2 ?_ ?_ | refine L3 ?_ ?_ ?_ ?_ | refine L4 ?_ ?_ | refine L5 ?_ ?_ ?_ ?_ ?_ | refine L6 ?_ ?_ ?_ ?_ ?_ | refine P0 (con256 ?_) ?_ ?_ ?_ | simp -implicitDefEqProofs only [F239, qA, ld_0, ld_pv, st_0, splice, doEqs, qU, List.reduceReplicate, Nat.reduceAdd, Nat.reduceSub, Nat.reduceLeDiff, Nat.reduceEqDiff, Nat.reduceMul, reduceIte, reduceCtorEq, qI, Nat.reduceLT, Nat.reduceBEq, up_s, Int.toNat_natCast, encT, encV, encI, encX, hE, Int.lt_irrefl, Int.toNat_zero, Int.reduceLT, lm_normal, lm_exit, lm_ret, Int.natCast_zero, *]
      all_goals first
        | refine lm_of 420 (fun i : Nat => some (.ptr 97 0 0) :: nl 17 (some (.slv 1 (l.map encI)) :: some (.int .i64 l.length) :: some (.int .i64 i) :: nl 13 [])) (fun i => if i = 0 then [(97, .rows 189 21 [[.int .i64 s_lg, .int .i64 s_th, .int .i64 s_pol, .int .i64 s_wt, .int .i64 s_spin, .int .i64 s_yld, .bool s_single, .int .i64 s_h, .int .i64 s_t, .int .i64 s_m, .slv 2 (s_slots.map encS), .slv 1 (s_sends.map encI), .slv 1 (s_recvs.map encI), .int .i64 ep, .slv 1 (ln.map encI), .int .i64 s_ee, .slv 1 (s_el.map encI), .int .i64 s_now, .slm 49 s_thr.length, .slv 5 (s_log.map encE), .int .i64 id]]), (49, .rows 44 11 (s_thr.map encT))] else [(97, .rows 189 21 [[.int .i64 s_lg, .int .i64 s_th, .int .i64 s_pol, .int .i64 s_wt, .int .i64 s_spin, .int .i64 s_yld, .bool s_single, .int .i64 s_h, .int .i64 s_t, .int .i64 s_m, .slv 2 (s_slots.map encS), .slv 1 (s_sends.map encI), .slv 1 (s_recvs.map encI), .int .i64 ep, .slv 1 (ln.map encI), .int .i64 s_ee, .slv 1 (s_el.map encI), .int .i64 s_now, .slm 417 s_thr.length, .slv 5 (s_log.map encE), .int .i64 id]]), (417, .rows 44 11 ((wT (State.mk (Config.mk s_lg s_th s_pol s_wt s_spin s_yld s_single) (Word.mk s_h s_t s_m) s_slots s_sends s_recvs (Event.mk ep ln) (Event.mk s_ee s_el) s_now s_thr s_log) (l.take i)).map encT))]) (fun i => i ≤ l.length) (fun i => l.length - i) [] [] 0 (by omega) ?_ ?_ ?_ ?_ ?_ ?_
        | trace_state
      rotate_right
      · intro i hi
        simp only [all_some, all_none, all_nil, nl_s, nl_0]
        intros
        by_cases h0 : i = 0
        · subst h0
          have hd : ((0 : Int) < (l.length : Int)) = True := by simp; omega
          have hS : (fabWake (State.mk (Config.mk s_lg s_th s_pol s_wt s_spin s_yld s_single) (Word.mk s_h s_t s_m) s_slots s_sends s_recvs (Event.mk ep ln) (Event.mk s_ee s_el) s_now s_thr s_log) (l.getD 0 default)).threads = wT (State.mk (Config.mk s_lg s_th s_pol s_wt s_spin s_yld s_single) (Word.mk s_h s_t s_m) s_slots s_sends s_recvs (Event.mk ep ln) (Event.mk s_ee s_el) s_now s_thr s_log) (l.take 1) := wT_s (s := (State.mk (Config.mk s_lg s_th s_pol s_wt s_spin s_yld s_single) (Word.mk s_h s_t s_m) s_slots s_sends s_recvs (Event.mk ep ln) (Event.mk s_ee s_el) s_now s_thr s_log)) (k := 0) hpos
          simp -implicitDefEqProofs only [if_true]
          repeat' with_reducible first | refine gTn_of (fun h => ?_) (fun h => ?_) | refine gT_of (fun h => ?_) (fun h => ?_) | refine caseTn_of (fun h => ?_) (fun h => ?_) | refine caseT_of (fun h => ?_) (fun h => ?_) | refine FN ?_ ?_ ?_ ?_ rfl ?_ | refine kv_ifn ?_ ?_ | refine kv_if ?_ ?_ | refine k_if ?_ ?_ | refine IA ?_ ?_ ?_ | refine L1 ?_ ?_ | refine L2 ?_ ?_ | refine L3 ?_ ?_ ?_ ?_ | refine L4 ?_ ?_ | refine L5 ?_ ?_ ?_ ?_ ?_ | refine L6 ?_ ?_ ?_ ?_ ?_ | refine GN 53 ?_ ?_ ?_ | refine ACN.of (con53w ?_ ?_ ?_ ?_ ?_ ?_ ?_ ?_) ?_ | refine ia_of (d := default) ?_ ?_ | refine rm_of [] [(580, 417)] 1 ?_ ?_ ?_ ?_ ?_ ?_ | simp -implicitDefEqProofs only [F239, qA, ld_0, ld_pv, st_0, splice, doEqs, qU, List.reduceReplicate, Nat.reduceAdd, Nat.reduceSub, Nat.reduceLeDiff, Nat.reduceEqDiff, Nat.reduceMul, reduceIte, reduceCtorEq, qI, Nat.reduceLT, Nat.reduceBEq, up_s, Int.toNat_natCast, encT, encV, encI, encX, hE, Int.lt_irrefl, Int.toNat_zero, Int.reduceLT, lm_normal, lm_exit, lm_ret, Int.natCast_zero, *]
          all_goals first
            | omega
            | (constructor <;> omega)
            | exact ⟨by omega, by omega⟩
            | (simp; done)
            | (rw [wrap64 (by omega) (by omega)]; omega)
            | exact wrap64 (by omega) (by omega)
            | trace_state
        · rcases Nat.lt_or_eq_of_le hi with hlt | heq
          · have hd : ((i : Int) < (l.length : Int)) = True := by simp; omega
            have hwl := @wT_len (State.mk (Config.mk s_lg s_th s_pol s_wt s_spin s_yld s_single) (Word.mk s_h s_t s_m) s_slots s_sends s_recvs (Event.mk ep ln) (Event.mk s_ee s_el) s_now s_thr s_log) (l.take i) (State.mk (Config.mk s_lg s_th s_pol s_wt s_spin s_yld s_single) (Word.mk s_h s_t s_m) s_slots s_sends s_recvs (Event.mk ep ln) (Event.mk s_ee s_el) s_now s_thr s_log)
            have hS := wT_s (s := (State.mk (Config.mk s_lg s_th s_pol s_wt s_spin s_yld s_single) (Word.mk s_h s_t s_m) s_slots s_sends s_recvs (Event.mk ep ln) (Event.mk s_ee s_el) s_now s_thr s_log)) hlt
            simp only [] at hS hwl
            have hT : ((wT (State.mk (Config.mk s_lg s_th s_pol s_wt s_spin s_yld s_single) (Word.mk s_h s_t s_m) s_slots s_sends s_recvs (Event.mk ep ln) (Event.mk s_ee s_el) s_now s_thr s_log) (l.take i)).map encT).take s_thr.length = (wT (State.mk (Config.mk s_lg s_th s_pol s_wt s_spin s_yld s_single) (Word.mk s_h s_t s_m) s_slots s_sends s_recvs (Event.mk ep ln) (Event.mk s_ee s_el) s_now s_thr s_log) (l.take i)).map encT := List.take_of_length_le (by rw [List.length_map, hwl]; exact Nat.le_refl _)
            have hW0 : wT (State.mk (Config.mk s_lg s_th s_pol s_wt s_spin s_yld s_single) (Word.mk s_h s_t s_m) s_slots s_sends s_recvs (Event.mk ep ln) (Event.mk s_ee s_el) s_now s_thr s_log) (l.take i) ≠ [] := by intro e; rw [e] at hwl; exact hne (List.eq_nil_of_length_eq_zero hwl.symm)
            have hwl2 : (wT (State.mk (Config.mk s_lg s_th s_pol s_wt s_spin s_yld s_single) (Word.mk s_h s_t s_m) s_slots s_sends s_recvs (Event.mk ep ln) (Event.mk s_ee s_el) s_now s_thr s_log) (l.take i)).length ≤ 100000000 := by omega
            have hwl3 : s_thr.length ≤ (wT (State.mk (Config.mk s_lg s_th s_pol s_wt s_spin s_yld s_single) (Word.mk s_h s_t s_m) s_slots s_sends s_recvs (Event.mk ep ln) (Event.mk s_ee s_el) s_now s_thr s_log) (l.take i)).length := by omega
            have hwl4 : (0 : Int) = 0 → (wT (State.mk (Config.mk s_lg s_th s_pol s_wt s_spin s_yld s_single) (Word.mk s_h s_t s_m) s_slots s_sends s_recvs (Event.mk ep ln) (Event.mk s_ee s_el) s_now s_thr s_log) (l.take i)).length = s_thr.length := fun _ => hwl
            clear hwl
            simp -implicitDefEqProofs only [if_neg h0]
            repeat' with_reducible first | refine gTn_of (fun h => ?_) (fun h => ?_) | refine gT_of (fun h => ?_) (fun h => ?_) | refine caseTn_of (fun h => ?_) (fun h => ?_) | refine caseT_of (fun h => ?_) (fun h => ?_) | refine FN ?_ ?_ ?_ ?_ rfl ?_ | refine kv_ifn ?_ ?_ | refine kv_if ?_ ?_ | refine k_if ?_ ?_ | refine IA ?_ ?_ ?_ | refine L1 ?_ ?_ | refine L2 ?_ ?_ | refine L3 ?_ ?_ ?_ ?_ | refine L4 ?_ ?_ | refine L5 ?_ ?_ ?_ ?_ ?_ | refine L6 ?_ ?_ ?_ ?_ ?_ | refine GN 53 ?_ ?_ ?_ | refine ACN.of (con53w ?_ ?_ ?_ ?_ ?_ ?_ ?_ ?_) ?_ | refine ia_of (d := default) ?_ ?_ | refine rm_of [] [(580, 417)] (i + 1) ?_ ?_ ?_ ?_ ?_ ?_ | simp -implicitDefEqProofs only [F239, qA, ld_0, ld_pv, st_0, splice, doEqs, qU, List.reduceReplicate, Nat.reduceAdd, Nat.reduceSub, Nat.reduceLeDiff, Nat.reduceEqDiff, Nat.reduceMul, reduceIte, reduceCtorEq, qI, Nat.reduceLT, Nat.reduceBEq, up_s, Int.toNat_natCast, encT, encV, encI, encX, hE, Int.lt_irrefl, Int.toNat_zero, Int.reduceLT, lm_normal, lm_exit, lm_ret, Int.natCast_zero, *]
            all_goals first
              | omega
              | (constructor <;> omega)
              | exact ⟨by omega, by omega⟩
              | (simp; done)
              | (rw [wrap64 (by omega) (by omega)]; omega)
              | exact wrap64 (by omega) (by omega)
              | (rw [hwl4 rfl]; done)
              | trace_state
          · have hd : ((i : Int) < (l.length : Int)) = False := by simp; omega
            have hg : _root_.id (i = l.length) := heq
            clear heq
            simp -implicitDefEqProofs only [if_neg h0]
            repeat' with_reducible first | refine gTn_of (fun h => ?_) (fun h => ?_) | refine gT_of (fun h => ?_) (fun h => ?_) | refine caseTn_of (fun h => ?_) (fun h => ?_) | refine caseT_of (fun h => ?_) (fun h => ?_) | refine FN ?_ ?_ ?_ ?_ rfl ?_ | refine kv_ifn ?_ ?_ | refine kv_if ?_ ?_ | refine k_if ?_ ?_ | refine IA ?_ ?_ ?_ | refine L1 ?_ ?_ | refine L2 ?_ ?_ | refine L3 ?_ ?_ ?_ ?_ | refine L4 ?_ ?_ | refine L5 ?_ ?_ ?_ ?_ ?_ | refine L6 ?_ ?_ ?_ ?_ ?_ | refine GN 53 ?_ ?_ ?_ | refine ACN.of (con53w ?_ ?_ ?_ ?_ ?_ ?_ ?_ ?_) ?_ | refine ia_of (d := default) ?_ ?_ | refine rm_of [] [(580, 417)] (i + 1) ?_ ?_ ?_ ?_ ?_ ?_ | simp -implicitDefEqProofs only [F239, qA, ld_0, ld_pv, st_0, splice, doEqs, qU, List.reduceReplicate, Nat.reduceAdd, Nat.reduceSub, Nat.reduceLeDiff, Nat.reduceEqDiff, Nat.reduceMul, reduceIte, reduceCtorEq, qI, Nat.reduceLT, Nat.reduceBEq, up_s, Int.toNat_natCast, encT, encV, encI, encX, hE, Int.lt_irrefl, Int.toNat_zero, Int.reduceLT, lm_normal, lm_exit, lm_ret, Int.natCast_zero, *]
            all_goals first
              | (obtain rfl : i = l.length := hg
                 rw [List.take_length]
                 exact he)
              | trace_state
      all_goals first
        | omega
        | (simp -implicitDefEqProofs only [qA, ld_0, ld_pv, st_0, splice, doEqs, qU, List.reduceReplicate, Nat.reduceAdd, Nat.reduceSub, Nat.reduceLeDiff, Nat.reduceEqDiff, Nat.reduceMul, reduceIte, reduceCtorEq, qI, Nat.reduceLT, Nat.reduceBEq, nl_s, nl_0]; first | done | rfl | (simp; done))
        | trace_state

theorem wakeE {s_lg s_th : Int} {s_pol s_wt : Int} {s_spin s_yld : Int} {s_single : Bool} {s_h s_t s_m : Int} {s_slots : List Slot} {s_sends s_recvs : List Int} {s_fe : Int} {s_fl : List Int} {s_ee : Int} {s_el : List Int} {s_now : Int} {s_thr : List Thread} {s_log : List Entry} {id ep : Int} {ln l : List Int} (h1 : s_slots.length ≤ 100000000) (h2 : s_sends.length ≤ 100000000) (h3 : s_recvs.length ≤ 100000000) (h4 : s_fl.length ≤ 100000000) (h5 : s_el.length ≤ 100000000) (h6 : s_thr.length ≤ 100000000) (h7 : s_log.length ≤ 100000000) (hne : s_thr ≠ []) (hE : vNotifyAll ⟨s_ee, s_el⟩ = (⟨ep, ln⟩, l)) (hln : ln.length ≤ 100000000) (hll : l.length ≤ 100000000) {M : AM} {κ : Ef → Prop}
    (hM : restM M (reachM M (pickN 1 (nmsL [.ptr 97 0 0, .ptr 97 0 15]) [])) = [(97, .rows 189 21 [[.int .i64 s_lg, .int .i64 s_th, .int .i64 s_pol, .int .i64 s_wt, .int .i64 s_spin, .int .i64 s_yld, .bool s_single, .int .i64 s_h, .int .i64 s_t, .int .i64 s_m, .slv 2 (s_slots.map encS), .slv 1 (s_sends.map encI), .slv 1 (s_recvs.map encI), .int .i64 s_fe, .slv 1 (s_fl.map encI), .int .i64 s_ee, .slv 1 (s_el.map encI), .int .i64 s_now, .slm 49 s_thr.length, .slv 5 (s_log.map encE), .int .i64 id]]), (49, .rows 44 11 (s_thr.map encT))])
    (h8 : l = [] → κ (.tup [], [(97, none), (49, none)] ++ [(97, .rows 189 21 [[.int .i64 s_lg, .int .i64 s_th, .int .i64 s_pol, .int .i64 s_wt, .int .i64 s_spin, .int .i64 s_yld, .bool s_single, .int .i64 s_h, .int .i64 s_t, .int .i64 s_m, .slv 2 (s_slots.map encS), .slv 1 (s_sends.map encI), .slv 1 (s_recvs.map encI), .int .i64 s_fe, .slv 1 (s_fl.map encI), .int .i64 ep, .slv 1 (ln.map encI), .int .i64 s_now, .slm 49 s_thr.length, .slv 5 (s_log.map encE), .int .i64 id]]), (49, .rows 44 11 (s_thr.map encT))].map (fun p => (p.1, some p.2)), [97, 49]))
    (h9 : l ≠ [] → κ (.tup [], [(97, none), (49, none)] ++ [(97, .rows 189 21 [[.int .i64 s_lg, .int .i64 s_th, .int .i64 s_pol, .int .i64 s_wt, .int .i64 s_spin, .int .i64 s_yld, .bool s_single, .int .i64 s_h, .int .i64 s_t, .int .i64 s_m, .slv 2 (s_slots.map encS), .slv 1 (s_sends.map encI), .slv 1 (s_recvs.map encI), .int .i64 s_fe, .slv 1 (s_fl.map encI), .int .i64 ep, .slv 1 (ln.map encI), .int .i64 s_now, .slm 417 s_thr.length, .slv 5 (s_log.map encE), .int .i64 id]]), (417, .rows 44 11 ((wT (State.mk (Config.mk s_lg s_th s_pol s_wt s_spin s_yld s_single) (Word.mk s_h s_t s_m) s_slots s_sends s_recvs (Event.mk s_fe s_fl) (Event.mk ep ln) s_now s_thr s_log) l).map encT))].map (fun p => (p.1, some p.2)), [97, 49])) : AC Tryz.prog 239 [.ptr 97 0 0, .ptr 97 0 15] M 417 κ := by
  by_cases hl : l = []
  · have k := h8 hl
    clear h8 h9
    refine AC.inlD mix x239 (by simp [F239]) (by omega) hM (by simp -implicitDefEqProofs only [qA, ld_0, ld_pv, st_0, splice, doEqs, qU, List.reduceReplicate, Nat.reduceAdd, Nat.reduceSub, Nat.reduceLeDiff, Nat.reduceEqDiff, Nat.reduceMul, reduceIte, reduceCtorEq, qI, Nat.reduceLT, Nat.reduceBEq]; first | done | exact rfl) (by simp -implicitDefEqProofs only [qA, ld_0, ld_pv, st_0, splice, doEqs, qU, List.reduceReplicate, Nat.reduceAdd, Nat.reduceSub, Nat.reduceLeDiff, Nat.reduceEqDiff, Nat.reduceMul, reduceIte, reduceCtorEq, qI, Nat.reduceLT, Nat.reduceBEq]; first | done | exact rfl) (by simp -implicitDefEqProofs only [qA, ld_0, ld_pv, st_0, splice, doEqs, qU, List.reduceReplicate, Nat.reduceAdd, Nat.reduceSub, Nat.reduceLeDiff, Nat.reduceEqDiff, Nat.reduceMul, reduceIte, reduceCtorEq, qI, Nat.reduceLT, Nat.reduceBEq]; first | done | exact rfl) ⟨[], [(97, .rows 189 21 [[.int .i64 s_lg, .int .i64 s_th, .int .i64 s_pol, .int .i64 s_wt, .int .i64 s_spin, .int .i64 s_yld, .bool s_single, .int .i64 s_h, .int .i64 s_t, .int .i64 s_m, .slv 2 (s_slots.map encS), .slv 1 (s_sends.map encI), .slv 1 (s_recvs.map encI), .int .i64 s_fe, .slv 1 (s_fl.map encI), .int .i64 ep, .slv 1 (ln.map encI), .int .i64 s_now, .slm 49 s_thr.length, .slv 5 (s_log.map encE), .int .i64 id]]), (49, .rows 44 11 (s_thr.map encT))] ++ [(529, .rows 29 2 [[.int .i64 ep, .slv 1 (ln.map encI)]])], 705, ?_, fun e he => ?_⟩
    · refine ⟨[], [], ?_, ?_, ?_, ?_⟩
      all_goals simp -implicitDefEqProofs only [qA, ld_0, ld_pv, st_0, splice, doEqs, qU, List.reduceReplicate, Nat.reduceAdd, Nat.reduceSub, Nat.reduceLeDiff, Nat.reduceEqDiff, Nat.reduceMul, reduceIte, reduceCtorEq, qI, Nat.reduceLT, Nat.reduceBEq]
      all_goals first
        | done
        | exact k
        | trace_state
    · subst hl
      clear k hM
      repeat' with_reducible first | refine gTn_of (fun h => ?_) (fun h => ?_) | refine gT_of (fun h => ?_) (fun h => ?_) | refine caseTn_of (fun h => ?_) (fun h => ?_) | refine caseT_of (fun h => ?_) (fun h => ?_) | refine FN ?_ ?_ ?_ ?_ rfl ?_ | refine kv_ifn ?_ ?_ | refine kv_if ?_ ?_ | refine k_if ?_ ?_ | refine IA ?_ ?_ ?_ | refine L1 ?_ ?_ | refine L2 ?_ ?_ | refine L3 ?_ ?_ ?_ ?_ | refine L4 ?_ ?_ | refine L5 ?_ ?_ ?_ ?_ ?_ | refine L6 ?_ ?_ ?_ ?_ ?_ | refine P0 (con256 ?_) ?_ ?_ ?_ | refine lp_unroll 1 ?_ ?_ | refine And.intro (Nat.le_of_ble_eq_true rfl) ?_ | simp -implicitDefEqProofs only [F239, qA, ld_0, ld_pv, st_0, splice, doEqs, qU, List.reduceReplicate, Nat.reduceAdd, Nat.reduceSub, Nat.reduceLeDiff, Nat.reduceEqDiff, Nat.reduceMul, reduceIte, reduceCtorEq, qI, Nat.reduceLT, Nat.reduceBEq, up_s, Int.toNat_natCast, encT, encV, encI, encX, hE, Int.lt_irrefl, Int.toNat_zero, Int.reduceLT, lm_normal, lm_exit, lm_ret, Int.natCast_zero, *]
      all_goals first
        | exact he
        | trace_state
  · have k := h9 hl
    clear h8 h9
    refine AC.inlD mix x239 (by simp [F239]) (by omega) hM (by simp -implicitDefEqProofs only [qA, ld_0, ld_pv, st_0, splice, doEqs, qU, List.reduceReplicate, Nat.reduceAdd, Nat.reduceSub, Nat.reduceLeDiff, Nat.reduceEqDiff, Nat.reduceMul, reduceIte, reduceCtorEq, qI, Nat.reduceLT, Nat.reduceBEq]; first | done | exact rfl) (by simp -implicitDefEqProofs only [qA, ld_0, ld_pv, st_0, splice, doEqs, qU, List.reduceReplicate, Nat.reduceAdd, Nat.reduceSub, Nat.reduceLeDiff, Nat.reduceEqDiff, Nat.reduceMul, reduceIte, reduceCtorEq, qI, Nat.reduceLT, Nat.reduceBEq]; first | done | exact rfl) (by simp -implicitDefEqProofs only [qA, ld_0, ld_pv, st_0, splice, doEqs, qU, List.reduceReplicate, Nat.reduceAdd, Nat.reduceSub, Nat.reduceLeDiff, Nat.reduceEqDiff, Nat.reduceMul, reduceIte, reduceCtorEq, qI, Nat.reduceLT, Nat.reduceBEq]; first | done | exact rfl) ⟨[], [(97, .rows 189 21 [[.int .i64 s_lg, .int .i64 s_th, .int .i64 s_pol, .int .i64 s_wt, .int .i64 s_spin, .int .i64 s_yld, .bool s_single, .int .i64 s_h, .int .i64 s_t, .int .i64 s_m, .slv 2 (s_slots.map encS), .slv 1 (s_sends.map encI), .slv 1 (s_recvs.map encI), .int .i64 s_fe, .slv 1 (s_fl.map encI), .int .i64 ep, .slv 1 (ln.map encI), .int .i64 s_now, .slm 417 s_thr.length, .slv 5 (s_log.map encE), .int .i64 id]]), (417, .rows 44 11 ((wT (State.mk (Config.mk s_lg s_th s_pol s_wt s_spin s_yld s_single) (Word.mk s_h s_t s_m) s_slots s_sends s_recvs (Event.mk s_fe s_fl) (Event.mk ep ln) s_now s_thr s_log) l).map encT))], 436, ?_, fun e he => ?_⟩
    · refine ⟨[], [(417, 417)], ?_, ?_, ?_, ?_⟩
      all_goals simp -implicitDefEqProofs only [qA, ld_0, ld_pv, st_0, splice, doEqs, qU, List.reduceReplicate, Nat.reduceAdd, Nat.reduceSub, Nat.reduceLeDiff, Nat.reduceEqDiff, Nat.reduceMul, reduceIte, reduceCtorEq, qI, Nat.reduceLT, Nat.reduceBEq]
      all_goals first
        | done
        | exact k
        | trace_state
    · have hpos : 0 < l.length := List.length_pos_iff.2 hl
      clear k hM
      repeat' with_reducible first | refine gTn_of (fun h => ?_) (fun h => ?_) | refine gT_of (fun h => ?_) (fun h => ?_) | refine caseTn_of (fun h => ?_) (fun h => ?_) | refine caseT_of (fun h => ?_) (fun h => ?_) | refine FN ?_ ?_ ?_ ?_ rfl ?_ | refine kv_ifn ?_ ?_ | refine kv_if ?_ ?_ | refine k_if ?_ ?_ | refine IA ?_ ?_ ?_ | refine L1 ?_ ?_ | refine L2 ?_ ?_ | refine L3 ?_ ?_ ?_ ?_ | refine L4 ?_ ?_ | refine L5 ?_ ?_ ?_ ?_ ?_ | refine L6 ?_ ?_ ?_ ?_ ?_ | refine P0 (con256 ?_) ?_ ?_ ?_ | simp -implicitDefEqProofs only [F239, qA, ld_0, ld_pv, st_0, splice, doEqs, qU, List.reduceReplicate, Nat.reduceAdd, Nat.reduceSub, Nat.reduceLeDiff, Nat.reduceEqDiff, Nat.reduceMul, reduceIte, reduceCtorEq, qI, Nat.reduceLT, Nat.reduceBEq, up_s, Int.toNat_natCast, encT, encV, encI, encX, hE, Int.lt_irrefl, Int.toNat_zero, Int.reduceLT, lm_normal, lm_exit, lm_ret, Int.natCast_zero, *]
      all_goals first
        | refine lm_of 420 (fun i : Nat => some (.ptr 97 0 0) :: nl 17 (some (.slv 1 (l.map encI)) :: some (.int .i64 l.length) :: some (.int .i64 i) :: nl 13 [])) (fun i => if i = 0 then [(97, .rows 189 21 [[.int .i64 s_lg, .int .i64 s_th, .int .i64 s_pol, .int .i64 s_wt, .int .i64 s_spin, .int .i64 s_yld, .bool s_single, .int .i64 s_h, .int .i64 s_t, .int .i64 s_m, .slv 2 (s_slots.map encS), .slv 1 (s_sends.map encI), .slv 1 (s_recvs.map encI), .int .i64 s_fe, .slv 1 (s_fl.map encI), .int .i64 ep, .slv 1 (ln.map encI), .int .i64 s_now, .slm 49 s_thr.length, .slv 5 (s_log.map encE), .int .i64 id]]), (49, .rows 44 11 (s_thr.map encT))] else [(97, .rows 189 21 [[.int .i64 s_lg, .int .i64 s_th, .int .i64 s_pol, .int .i64 s_wt, .int .i64 s_spin, .int .i64 s_yld, .bool s_single, .int .i64 s_h, .int .i64 s_t, .int .i64 s_m, .slv 2 (s_slots.map encS), .slv 1 (s_sends.map encI), .slv 1 (s_recvs.map encI), .int .i64 s_fe, .slv 1 (s_fl.map encI), .int .i64 ep, .slv 1 (ln.map encI), .int .i64 s_now, .slm 417 s_thr.length, .slv 5 (s_log.map encE), .int .i64 id]]), (417, .rows 44 11 ((wT (State.mk (Config.mk s_lg s_th s_pol s_wt s_spin s_yld s_single) (Word.mk s_h s_t s_m) s_slots s_sends s_recvs (Event.mk s_fe s_fl) (Event.mk ep ln) s_now s_thr s_log) (l.take i)).map encT))]) (fun i => i ≤ l.length) (fun i => l.length - i) [] [] 0 (by omega) ?_ ?_ ?_ ?_ ?_ ?_
        | trace_state
      rotate_right
      · intro i hi
        simp only [all_some, all_none, all_nil, nl_s, nl_0]
        intros
        by_cases h0 : i = 0
        · subst h0
          have hd : ((0 : Int) < (l.length : Int)) = True := by simp; omega
          have hS : (fabWake (State.mk (Config.mk s_lg s_th s_pol s_wt s_spin s_yld s_single) (Word.mk s_h s_t s_m) s_slots s_sends s_recvs (Event.mk s_fe s_fl) (Event.mk ep ln) s_now s_thr s_log) (l.getD 0 default)).threads = wT (State.mk (Config.mk s_lg s_th s_pol s_wt s_spin s_yld s_single) (Word.mk s_h s_t s_m) s_slots s_sends s_recvs (Event.mk s_fe s_fl) (Event.mk ep ln) s_now s_thr s_log) (l.take 1) := wT_s (s := (State.mk (Config.mk s_lg s_th s_pol s_wt s_spin s_yld s_single) (Word.mk s_h s_t s_m) s_slots s_sends s_recvs (Event.mk s_fe s_fl) (Event.mk ep ln) s_now s_thr s_log)) (k := 0) hpos
          simp -implicitDefEqProofs only [if_true]
          repeat' with_reducible first | refine gTn_of (fun h => ?_) (fun h => ?_) | refine gT_of (fun h => ?_) (fun h => ?_) | refine caseTn_of (fun h => ?_) (fun h => ?_) | refine caseT_of (fun h => ?_) (fun h => ?_) | refine FN ?_ ?_ ?_ ?_ rfl ?_ | refine kv_ifn ?_ ?_ | refine kv_if ?_ ?_ | refine k_if ?_ ?_ | refine IA ?_ ?_ ?_ | refine L1 ?_ ?_ | refine L2 ?_ ?_ | refine L3 ?_ ?_ ?_ ?_ | refine L4 ?_ ?_ | refine L5 ?_ ?_ ?_ ?_ ?_ | refine L6 ?_ ?_ ?_ ?_ ?_ | refine GN 53 ?_ ?_ ?_ | refine ACN.of (con53w ?_ ?_ ?_ ?_ ?_ ?_ ?_ ?_) ?_ | refine ia_of (d := default) ?_ ?_ | refine rm_of [] [(580, 417)] 1 ?_ ?_ ?_ ?_ ?_ ?_ | simp -implicitDefEqProofs only [F239, qA, ld_0, ld_pv, st_0, splice, doEqs, qU, List.reduceReplicate, Nat.reduceAdd, Nat.reduceSub, Nat.reduceLeDiff, Nat.reduceEqDiff, Nat.reduceMul, reduceIte, reduceCtorEq, qI, Nat.reduceLT, Nat.reduceBEq, up_s, Int.toNat_natCast, encT, encV, encI, encX, hE, Int.lt_irrefl, Int.toNat_zero, Int.reduceLT, lm_normal, lm_exit, lm_ret, Int.natCast_zero, *]
          all_goals first
            | omega
            | (constructor <;> omega)
            | exact ⟨by omega, by omega⟩
            | (simp; done)
            | (rw [wrap64 (by omega) (by omega)]; omega)
            | exact wrap64 (by omega) (by omega)
            | trace_state
        · rcases Nat.lt_or_eq_of_le hi with hlt | heq
          · have hd : ((i : Int) < (l.length : Int)) = True := by simp; omega
            have hwl := @wT_len (State.mk (Config.mk s_lg s_th s_pol s_wt s_spin s_yld s_single) (Word.mk s_h s_t s_m) s_slots s_sends s_recvs (Event.mk s_fe s_fl) (Event.mk ep ln) s_now s_thr s_log) (l.take i) (State.mk (Config.mk s_lg s_th s_pol s_wt s_spin s_yld s_single) (Word.mk s_h s_t s_m) s_slots s_sends s_recvs (Event.mk s_fe s_fl) (Event.mk ep ln) s_now s_thr s_log)
            have hS := wT_s (s := (State.mk (Config.mk s_lg s_th s_pol s_wt s_spin s_yld s_single) (Word.mk s_h s_t s_m) s_slots s_sends s_recvs (Event.mk s_fe s_fl) (Event.mk ep ln) s_now s_thr s_log)) hlt
            simp only [] at hS hwl
            have hT : ((wT (State.mk (Config.mk s_lg s_th s_pol s_wt s_spin s_yld s_single) (Word.mk s_h s_t s_m) s_slots s_sends s_recvs (Event.mk s_fe s_fl) (Event.mk ep ln) s_now s_thr s_log) (l.take i)).map encT).take s_thr.length = (wT (State.mk (Config.mk s_lg s_th s_pol s_wt s_spin s_yld s_single) (Word.mk s_h s_t s_m) s_slots s_sends s_recvs (Event.mk s_fe s_fl) (Event.mk ep ln) s_now s_thr s_log) (l.take i)).map encT := List.take_of_length_le (by rw [List.length_map, hwl]; exact Nat.le_refl _)
            have hW0 : wT (State.mk (Config.mk s_lg s_th s_pol s_wt s_spin s_yld s_single) (Word.mk s_h s_t s_m) s_slots s_sends s_recvs (Event.mk s_fe s_fl) (Event.mk ep ln) s_now s_thr s_log) (l.take i) ≠ [] := by intro e; rw [e] at hwl; exact hne (List.eq_nil_of_length_eq_zero hwl.symm)
            have hwl2 : (wT (State.mk (Config.mk s_lg s_th s_pol s_wt s_spin s_yld s_single) (Word.mk s_h s_t s_m) s_slots s_sends s_recvs (Event.mk s_fe s_fl) (Event.mk ep ln) s_now s_thr s_log) (l.take i)).length ≤ 100000000 := by omega
            have hwl3 : s_thr.length ≤ (wT (State.mk (Config.mk s_lg s_th s_pol s_wt s_spin s_yld s_single) (Word.mk s_h s_t s_m) s_slots s_sends s_recvs (Event.mk s_fe s_fl) (Event.mk ep ln) s_now s_thr s_log) (l.take i)).length := by omega
            have hwl4 : (0 : Int) = 0 → (wT (State.mk (Config.mk s_lg s_th s_pol s_wt s_spin s_yld s_single) (Word.mk s_h s_t s_m) s_slots s_sends s_recvs (Event.mk s_fe s_fl) (Event.mk ep ln) s_now s_thr s_log) (l.take i)).length = s_thr.length := fun _ => hwl
            clear hwl
            simp -implicitDefEqProofs only [if_neg h0]
            repeat' with_reducible first | refine gTn_of (fun h => ?_) (fun h => ?_) | refine gT_of (fun h => ?_) (fun h => ?_) | refine caseTn_of (fun h => ?_) (fun h => ?_) | refine caseT_of (fun h => ?_) (fun h => ?_) | refine FN ?_ ?_ ?_ ?_ rfl ?_ | refine kv_ifn ?_ ?_ | refine kv_if ?_ ?_ | refine k_if ?_ ?_ | refine IA ?_ ?_ ?_ | refine L1 ?_ ?_ | refine L2 ?_ ?_ | refine L3 ?_ ?_ ?_ ?_ | refine L4 ?_ ?_ | refine L5 ?_ ?_ ?_ ?_ ?_ | refine L6 ?_ ?_ ?_ ?_ ?_ | refine GN 53 ?_ ?_ ?_ | refine ACN.of (con53w ?_ ?_ ?_ ?_ ?_ ?_ ?_ ?_) ?_ | refine ia_of (d := default) ?_ ?_ | refine rm_of [] [(580, 417)] (i + 1) ?_ ?_ ?_ ?_ ?_ ?_ | simp -implicitDefEqProofs only [F239, qA, ld_0, ld_pv, st_0, splice, doEqs, qU, List.reduceReplicate, Nat.reduceAdd, Nat.reduceSub, Nat.reduceLeDiff, Nat.reduceEqDiff, Nat.reduceMul, reduceIte, reduceCtorEq, qI, Nat.reduceLT, Nat.reduceBEq, up_s, Int.toNat_natCast, encT, encV, encI, encX, hE, Int.lt_irrefl, Int.toNat_zero, Int.reduceLT, lm_normal, lm_exit, lm_ret, Int.natCast_zero, *]
            all_goals first
              | omega
              | (constructor <;> omega)
              | exact ⟨by omega, by omega⟩
              | (simp; done)
              | (rw [wrap64 (by omega) (by omega)]; omega)
              | exact wrap64 (by omega) (by omega)
              | (rw [hwl4 rfl]; done)
              | trace_state
          · have hd : ((i : Int) < (l.length : Int)) = False := by simp; omega
            have hg : _root_.id (i = l.length) := heq
            clear heq
            simp -implicitDefEqProofs only [if_neg h0]
            repeat' with_reducible first | refine gTn_of (fun h => ?_) (fun h => ?_) | refine gT_of (fun h => ?_) (fun h => ?_) | refine caseTn_of (fun h => ?_) (fun h => ?_) | refine caseT_of (fun h => ?_) (fun h => ?_) | refine FN ?_ ?_ ?_ ?_ rfl ?_ | refine kv_ifn ?_ ?_ | refine kv_if ?_ ?_ | refine k_if ?_ ?_ | refine IA ?_ ?_ ?_ | refine L1 ?_ ?_ | refine L2 ?_ ?_ | refine L3 ?_ ?_ ?_ ?_ | refine L4 ?_ ?_ | refine L5 ?_ ?_ ?_ ?_ ?_ | refine L6 ?_ ?_ ?_ ?_ ?_ | refine GN 53 ?_ ?_ ?_ | refine ACN.of (con53w ?_ ?_ ?_ ?_ ?_ ?_ ?_ ?_) ?_ | refine ia_of (d := default) ?_ ?_ | refine rm_of [] [(580, 417)] (i + 1) ?_ ?_ ?_ ?_ ?_ ?_ | simp -implicitDefEqProofs only [F239, qA, ld_0, ld_pv, st_0, splice, doEqs, qU, List.reduceReplicate, Nat.reduceAdd, Nat.reduceSub, Nat.reduceLeDiff, Nat.reduceEqDiff, Nat.reduceMul, reduceIte, reduceCtorEq, qI, Nat.reduceLT, Nat.reduceBEq, up_s, Int.toNat_natCast, encT, encV, encI, encX, hE, Int.lt_irrefl, Int.toNat_zero, Int.reduceLT, lm_normal, lm_exit, lm_ret, Int.natCast_zero, *]
            all_goals first
              | (obtain rfl : i = l.length := hg
                 rw [List.take_length]
                 exact he)
              | trace_state
      all_goals first
        | omega
        | (simp -implicitDefEqProofs only [qA, ld_0, ld_pv, st_0, splice, doEqs, qU, List.reduceReplicate, Nat.reduceAdd, Nat.reduceSub, Nat.reduceLeDiff, Nat.reduceEqDiff, Nat.reduceMul, reduceIte, reduceCtorEq, qI, Nat.reduceLT, Nat.reduceBEq, nl_s, nl_0]; first | done | rfl | (simp; done))
        | trace_state

end Go.Sak
