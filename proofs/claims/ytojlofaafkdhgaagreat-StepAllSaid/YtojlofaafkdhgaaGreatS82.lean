/- Part S82 of the proofs about the program: K93. Conditions: none. -/
import Derived.Test.YtojlofaafkdhgaaGreatS78
import Derived.Test.YtojlofaafkdhgaaGreatS43
import Derived.Test.YtojlofaafkdhgaaGreatS04
import Derived.Test.YtojlofaafkdhgaaGreatProg
import Derived.KernelRfl
namespace Go.Sak
open Go Go.RowKit Go.Proofs
set_option linter.unusedVariables false
set_option linter.unusedSimpArgs false
set_option maxRecDepth 10000
set_option maxHeartbeats 8000000
def F19 : AFn := ⟨89, (.seq (.reg [o1 1 (.box 33 0), o1 2 (.mv (.const (.bool false)))]) (.seq (.reg [o1 10 (.call 47 []), o1 3 (.mv 10)]) (.seq (.seq (.reg [o1 11 (.ld 20 true 1), o1 12 (.call 22 [11]), o1 13 (.not 12)]) (.cond 13 (.seq (.reg [o1 14 (.mv 3), o1 2 (.mv 14)]) .ret) .skip)) (.seq (.reg [o1 15 (.ld 20 true 1), o1 16 (.call 50 [15]), o1 4 (.mv 16)]) (.seq (.seq (.reg [o1 17 (.mv 4), o1 18 (.len 17), o1 19 (.bin .neq 18 (ci 1))]) (.cond 19 (.seq (.reg [o1 20 (.mv 3), o1 2 (.mv 20)]) .ret) .skip)) (.seq (.reg [o1 22 (.ld 20 true 1), o1 23 (.call 51 [22, (ci 1)]), o1 21 (.mv 23), o1 24 (.ext 21 0), o1 25 (.ext 21 1), o1 5 (.alloc 33 [(.int .i64 0), (.int .i64 0), (.int .i64 0), (.int .i64 0), (.int .i64 0), (.int .i64 0), (.bool false), (.int .i64 0), (.int .i64 0), (.int .i64 0), .slnil, .slnil, .slnil, (.int .i64 0), .slnil, (.int .i64 0), .slnil, (.int .i64 0), .slnil, .slnil]), o2 (.st 20 5 24), o1 6 (.mv 25)]) (.seq (.regT [o1 27 (.ld 20 true 1), o1 28 (.mv 4), o1 29 (.iaddr 1 28 (ci 0)), o1 30 (.ld 1 false 29), o1 31 (.call 48 [27, 30]), o1 26 (.mv 31), o1 32 (.ext 26 0), o1 33 (.ext 26 1), o1 7 (.alloc 33 [(.int .i64 0), (.int .i64 0), (.int .i64 0), (.int .i64 0), (.int .i64 0), (.int .i64 0), (.bool false), (.int .i64 0), (.int .i64 0), (.int .i64 0), .slnil, .slnil, .slnil, (.int .i64 0), .slnil, (.int .i64 0), .slnil, (.int .i64 0), .slnil, .slnil]), o2 (.st 20 7 32), o1 8 (.mv 33)] [(0, 2), (0, 3), (0, 8), (2, 8), (3, 8), (4, 8)]) (.seq (.seq (.reg [o1 9 (.mv (ci 0))]) (.block 0 (.loop (.seq (.seq (.reg [o1 34 (.mv 9), o1 35 (.faddr 18 1), o1 36 (.ld 1 false 35), o1 37 (.len 36), o1 38 (.bin .lss 34 37), o1 39 (.mv 38), o3 40 (.mv 9) 39, o3 41 (.faddr 18 7) 39, o3 42 (.ld 1 false 41) 39, o3 43 (.len 42) 39, o3 44 (.bin .lss 40 43) 39, o1 45 (.pick 39 44 (.const (.bool false)))]) (.cond 45 .skip (.exit 0))) (.seq (.block 1 (.seq (.regT [o1 48 (.mv 9), o1 49 (.mv 4), o1 50 (.iaddr 1 49 (ci 0)), o1 51 (.ld 1 false 50), o1 52 (.bin .neq 48 51), o1 53 (.mv 52), o3 54 (.faddr 18 7) 53, o3 55 (.ld 1 false 54) 53, o3 56 (.mv 9) 53, o3 57 (.iaddr 11 55 56) 53, o3 58 (.ld 11 true 57) 53, o3 59 (.faddr 18 1) 53, o3 60 (.ld 1 false 59) 53, o3 61 (.mv 9) 53, o3 62 (.iaddr 11 60 61) 53, o3 63 (.ld 11 true 62) 53, o3 64 (.eqs true [(.int .i64), (.int .i64), (.int .i64), (.int .i64), (.int .i64), (.int .i64), (.int .i64), (.int .i64), .bool, (.int .i64), (.int .i64)] 58 63) 53, o1 65 (.pick 53 64 (.const (.bool false)))] [(6, 11), (7, 11), (9, 11), (10, 11), (6, 12), (7, 12), (9, 12), (10, 12), (6, 14), (7, 14), (9, 14), (10, 14), (6, 15), (7, 15), (9, 15), (10, 15)]) (.cond 65 (.seq (.reg [o1 66 (.mv 3), o1 67 (.mv 66), o3 68 (.mv 6) 67, o3 69 (.bin .eql 68 (ci 1)) 67, o1 70 (.pick 67 69 (.const (.bool false))), o1 71 (.mv 70), o3 72 (.mv 8) 71, o3 73 (.bin .eql 72 (ci 0)) 71, o1 74 (.pick 71 73 (.const (.bool false))), o1 2 (.mv 74)]) .ret) .skip))) (.reg [o1 46 (.mv 9), o1 47 (.bin .add 46 (ci 1)), o1 9 (.mv 47)])))))) (.seq (.reg [o1 75 (.mv 3), o1 76 (.mv 75), o3 77 (.mv 6) 76, o3 78 (.bin .eql 77 (ci 1)) 76, o1 79 (.pick 76 78 (.const (.bool false))), o1 80 (.mv 79), o3 81 (.mv 8) 80, o3 82 (.bin .eql 81 (ci 0)) 80, o1 83 (.pick 80 82 (.const (.bool false))), o1 84 (.mv 83), o3 85 (.ld 20 true 5) 84, o3 86 (.ld 20 true 7) 84, o3 87 (.call 25 [85, 86]) 84, o1 88 (.pick 84 87 (.const (.bool false))), o1 2 (.mv 88)]) .ret))))))))), [(2, none)]⟩
theorem x19 : xf Tryz.prog 19 = some F19 := by kernel_rfl
theorem con19 {s : State} : Con Tryz.prog 19 [.agg (encZ s)] (.bool true, [], []) := by
  by_cases hl1 : ∃ k, pActive s = [k]
  · obtain ⟨k, hk⟩ := hl1
    have hck : fabCheck s = true := by
      by_cases h : fabCheck s = true
      · exact h
      · rw [show pActive s = [] from by unfold pActive; rw [if_pos h]] at hk; cases hk
    have hF := fab_iff.1 hck
    have hR := round_one hF hk
    have hp0 : (pPick s k).2 = 0 := (pActive_mem hF).1 (by rw [hk]; simp)
    have hw2 := pick_wok (s := s) (id := k)
    have hlen := hw2.1
    have hq : pQuiet s = false := by unfold pQuiet; rw [hk]; rfl
    have hr1 : pRounds s 1 = ((pSome s (pAll s)).1, 1) := by
      have h := @pRound_next (pAll s) 1 0 s hq (by omega)
      unfold pRounds
      rw [show (min (max 1 0) 200 : Int).toNat = 1 from rfl]
      rw [show pRound (pAll s) 1 s = _ from h]
      rfl
    have hbp : ∀ n, Bd s n → Bd (pPick s k).1 (n + 1) := fun n h => bd_pPick h
    have hbr : Bd s 200 → Bd (pSome s (pAll s)).1 100000 := fun h => (bd_pSome (pAll s) h).mono (by have h2 := h.all; simp only [pAll, List.length_map, List.length_range]; omega)
    clear hw2 hF hck hq
    generalize hc : (pSome s (pAll s)).1 = c at hR hr1 hbr
    obtain ⟨⟨a, e⟩, hP⟩ : ∃ p, pPick s k = p := ⟨_, rfl⟩
    rw [hP] at hR hp0 hlen hbp
    simp only [] at hR hp0 hlen hbp
    subst hp0
    refine mcb_of_vc mix x19 (by simp [F19]) fun hw _ => ?_
    clear hw
    repeat' with_reducible first | refine gTn_of (fun h => ?_) (fun h => ?_) | refine gT_of (fun h => ?_) (fun h => ?_) | refine caseTn_of (fun h => ?_) (fun h => ?_) | refine caseT_of (fun h => ?_) (fun h => ?_) | refine FN ?_ ?_ ?_ ?_ rfl ?_ | refine kv_ifn ?_ ?_ | refine kv_if ?_ ?_ | refine k_if ?_ ?_ | refine IA ?_ ?_ ?_ | refine L1 ?_ ?_ | refine L2 ?_ ?_ | refine L3 ?_ ?_ ?_ ?_ | refine L4 ?_ ?_ | refine L5 ?_ ?_ ?_ ?_ ?_ | refine L6 ?_ ?_ ?_ ?_ ?_ | refine AC.p0 (con47 ) ?_ (by simp -implicitDefEqProofs only [qU, pure_encZ]; done) ?_ ?_ | refine AC.p0 (con22s ) ?_ (by simp -implicitDefEqProofs only [qU, pure_encZ]; done) ?_ ?_ | refine AC.p0 (con50s ?_) ?_ (by simp -implicitDefEqProofs only [qU, pure_encZ]; done) ?_ ?_ | refine AC.p0 (con51s ?_) ?_ (by simp -implicitDefEqProofs only [qU, pure_encZ]; done) ?_ ?_ | refine AC.p0 (con48s ?_) ?_ (by simp -implicitDefEqProofs only [qU, pure_encZ]; done) ?_ ?_ | refine AC.p0 (con25s ?_) ?_ (by simp -implicitDefEqProofs only [qU, pure_encZ]; done) ?_ ?_ | refine ia_of (d := default) ?_ ?_ | simp -implicitDefEqProofs only [F19, qA, ld_0, ld_pv, st_0, splice, doEqs, qU, List.reduceReplicate, Nat.reduceAdd, Nat.reduceSub, Nat.reduceLeDiff, Nat.reduceEqDiff, Nat.reduceMul, reduceIte, reduceCtorEq, qI, Nat.reduceLT, Nat.reduceBEq, up_s, Int.toNat_natCast, qZ, nl_s, nl_0, qC, qT, qK, ceq_T, encI, ia_lit, lm_normal, lm_exit, lm_ret, Int.natCast_zero, Int.reduceEq, Int.reduceNe, *]
    all_goals first
      | exact Wk.refl _
      | exact (few_bd (by assumption)).mono (by omega)
      | refine lm_of 8 (fun i : Nat => nl 1 (some (.ptr 2 0 0) :: nl 1 (some (.bool true) :: some (.slv 1 [[.int .i64 k]]) :: some (.ptr 3 0 0) :: some (.int .i64 1) :: some (.ptr 4 0 0) :: some (.int .i64 0) :: some (.int .i64 i) :: nl 79 []))) (fun i => [(2, .rows 33 20 [encZ s]), (3, .rows 33 20 [encZ c]), (4, .rows 33 20 [encZ a])]) (fun i => i ≤ s.threads.length ∧ ∀ j : Nat, j < i → (j : Int) ≠ k → a.threads.getD j default = s.threads.getD j default) (fun i => s.threads.length - i) [] [(1, 2), (289, 3), (465, 4)] 0 (by omega) ?_ ?_ ?_ ?_ ?_ ?_
      | trace_state
    rotate_right
    · intro i hi
      simp only [all_some, all_none, all_nil, nl_s, nl_0]
      intros
      repeat' with_reducible first | refine gTn_of (fun h => ?_) (fun h => ?_) | refine gT_of (fun h => ?_) (fun h => ?_) | refine caseTn_of (fun h => ?_) (fun h => ?_) | refine caseT_of (fun h => ?_) (fun h => ?_) | refine FN ?_ ?_ ?_ ?_ rfl ?_ | refine kv_ifn ?_ ?_ | refine kv_if ?_ ?_ | refine k_if ?_ ?_ | refine IA ?_ ?_ ?_ | refine L1 ?_ ?_ | refine L2 ?_ ?_ | refine L3 ?_ ?_ ?_ ?_ | refine L4 ?_ ?_ | refine L5 ?_ ?_ ?_ ?_ ?_ | refine L6 ?_ ?_ ?_ ?_ ?_ | refine AC.p0 (con47 ) ?_ (by simp -implicitDefEqProofs only [qU, pure_encZ]; done) ?_ ?_ | refine AC.p0 (con22s ) ?_ (by simp -implicitDefEqProofs only [qU, pure_encZ]; done) ?_ ?_ | refine AC.p0 (con50s ?_) ?_ (by simp -implicitDefEqProofs only [qU, pure_encZ]; done) ?_ ?_ | refine AC.p0 (con51s ?_) ?_ (by simp -implicitDefEqProofs only [qU, pure_encZ]; done) ?_ ?_ | refine AC.p0 (con48s ?_) ?_ (by simp -implicitDefEqProofs only [qU, pure_encZ]; done) ?_ ?_ | refine AC.p0 (con25s ?_) ?_ (by simp -implicitDefEqProofs only [qU, pure_encZ]; done) ?_ ?_ | refine ia_of (d := default) ?_ ?_ | refine rm_of [] [(2, 2), (3, 3), (4, 4)] (i + 1) ?_ ?_ ?_ ?_ ?_ ?_ | simp -implicitDefEqProofs only [F19, qA, ld_0, ld_pv, st_0, splice, doEqs, qU, List.reduceReplicate, Nat.reduceAdd, Nat.reduceSub, Nat.reduceLeDiff, Nat.reduceEqDiff, Nat.reduceMul, reduceIte, reduceCtorEq, qI, Nat.reduceLT, Nat.reduceBEq, up_s, Int.toNat_natCast, qZ, nl_s, nl_0, qC, qT, qK, ceq_T, encI, ia_lit, lm_normal, lm_exit, lm_ret, Int.natCast_zero, Int.reduceEq, Int.reduceNe, *]
      all_goals first
        | exact Wk.refl _
        | (have hsl := (few_bd (by assumption)).all
           obtain ⟨hi1, hi2⟩ := hi
           first
           | omega
           | exact ⟨by omega, by omega⟩
           | (rw [decide_eq_true (hR (fun j hj => hi2 j (by have := of_decide_eq_false h; omega)))]; exact Wk.refl _)
           | (simp only [decide_eq_true_eq, decide_eq_false_iff_not] at *
              first
              | omega
              | exact ⟨by omega, by omega⟩
              | (rw [wrap64 (by omega) (by omega)]; omega)
              | (refine ⟨by omega, fun j hj hjk => ?_⟩
                 rcases Nat.lt_or_eq_of_le (Nat.le_of_lt_succ hj) with h' | h'
                 · exact hi2 j h' hjk
                 · subst h'; first | assumption | omega)))
        | (exact hbr (few_bd (by assumption)) |>.mono (by omega))
        | (exact (hbp _ (few_bd (by assumption))).mono (by omega))
        | trace_state
    all_goals first
      | omega
      | exact ⟨Nat.zero_le _, fun j hj => absurd hj (Nat.not_lt_zero j)⟩
      | (simp -implicitDefEqProofs only [qA, ld_0, ld_pv, st_0, splice, doEqs, qU, List.reduceReplicate, Nat.reduceAdd, Nat.reduceSub, Nat.reduceLeDiff, Nat.reduceEqDiff, Nat.reduceMul, reduceIte, reduceCtorEq, qI, Nat.reduceLT, Nat.reduceBEq, qZ, nl_s, nl_0]; first | done | (simp; done))
      | trace_state
  · have hl2 : ¬ (pActive s).length = 1 := fun h => hl1 (by
      match hp : pActive s, h with
      | [k], _ => exact ⟨k, rfl⟩)
    clear hl1
    refine mcb_of_vc mix x19 (by simp [F19]) fun hw _ => ?_
    clear hw
    repeat' with_reducible first | refine gTn_of (fun h => ?_) (fun h => ?_) | refine gT_of (fun h => ?_) (fun h => ?_) | refine caseTn_of (fun h => ?_) (fun h => ?_) | refine caseT_of (fun h => ?_) (fun h => ?_) | refine FN ?_ ?_ ?_ ?_ rfl ?_ | refine kv_ifn ?_ ?_ | refine kv_if ?_ ?_ | refine k_if ?_ ?_ | refine IA ?_ ?_ ?_ | refine L1 ?_ ?_ | refine L2 ?_ ?_ | refine L3 ?_ ?_ ?_ ?_ | refine L4 ?_ ?_ | refine L5 ?_ ?_ ?_ ?_ ?_ | refine L6 ?_ ?_ ?_ ?_ ?_ | refine AC.p0 (con47 ) ?_ (by simp -implicitDefEqProofs only [qU, pure_encZ]; done) ?_ ?_ | refine AC.p0 (con22s ) ?_ (by simp -implicitDefEqProofs only [qU, pure_encZ]; done) ?_ ?_ | refine AC.p0 (con50s ?_) ?_ (by simp -implicitDefEqProofs only [qU, pure_encZ]; done) ?_ ?_ | refine AC.p0 (con51s ?_) ?_ (by simp -implicitDefEqProofs only [qU, pure_encZ]; done) ?_ ?_ | refine AC.p0 (con48s ?_) ?_ (by simp -implicitDefEqProofs only [qU, pure_encZ]; done) ?_ ?_ | refine AC.p0 (con25s ?_) ?_ (by simp -implicitDefEqProofs only [qU, pure_encZ]; done) ?_ ?_ | refine ia_of (d := default) ?_ ?_ | simp -implicitDefEqProofs only [F19, qA, ld_0, ld_pv, st_0, splice, doEqs, qU, List.reduceReplicate, Nat.reduceAdd, Nat.reduceSub, Nat.reduceLeDiff, Nat.reduceEqDiff, Nat.reduceMul, reduceIte, reduceCtorEq, qI, Nat.reduceLT, Nat.reduceBEq, up_s, Int.toNat_natCast, qZ, nl_s, nl_0, qC, qT, qK, ceq_T, encI, ia_lit, lm_normal, lm_exit, lm_ret, Int.natCast_zero, Int.reduceEq, Int.reduceNe, *]
    all_goals first
      | exact Wk.refl _
      | exact (few_bd (by assumption)).mono (by omega)
      | (exfalso; simp only [decide_eq_true_eq, decide_eq_false_iff_not] at *; omega)
      | trace_state

end Go.Sak
