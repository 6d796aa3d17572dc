/- Part S76 of the proofs about the program: K85, K84. Conditions: none. -/
import Derived.Test.YtojlofaafkdhgaaGreatS42
import Derived.Test.YtojlofaafkdhgaaGreatS47
import Derived.Test.YtojlofaafkdhgaaGreatS38
import Derived.Test.YtojlofaafkdhgaaGreatS04
import Derived.Test.YtojlofaafkdhgaaGreatProg
import Derived.KernelRfl
import Derived.Test.YtojlofaafkdhgaaGreatS75
namespace Go.Sak
open Go Go.RowKit Go.Proofs
set_option linter.unusedVariables false
set_option linter.unusedSimpArgs false
set_option maxRecDepth 10000
set_option maxHeartbeats 8000000
def F50 : AFn := ⟨25, (.seq (.reg [o1 1 (.box 33 0), o1 2 (.mv (.const .slnil))]) (.seq (.seq (.reg [o1 5 (.ld 20 true 1), o1 6 (.call 32 [5]), o1 7 (.not 6)]) (.cond 7 (.seq (.reg [o1 2 (.mv (.const .slnil))]) .ret) .skip)) (.seq (.seq (.reg [o1 8 (.faddr 18 1), o1 9 (.ld 1 false 8), o1 10 (.len 9), o1 11 (.mv (ci 0))]) (.block 0 (.loop (.seq (.reg [o1 12 (.bin .lss 11 10)]) (.seq (.cond 12 .skip (.exit 0)) (.seq (.block 1 (.seq (.reg [o1 13 (.mv 11), o1 14 (.iaddr 11 9 11), o1 15 (.ld 11 true 14), o1 4 (.alloc 44 [(.int .i64 0), (.int .i64 0), (.int .i64 0), (.int .i64 0), (.int .i64 0), (.int .i64 0), (.int .i64 0), (.int .i64 0), (.bool false), (.int .i64 0), (.int .i64 0)]), o1 3 (.mv 13), o2 (.st 11 4 15)]) (.seq (.reg [o1 16 (.ld 11 true 4), o1 17 (.call 124 [16]), o1 18 (.bin .eql 17 (ci 0))]) (.cond 18 (.reg [o1 19 (.mv 2), o1 20 (.mv 3), o1 21 (.bslice 3 1 1 [20]), o1 22 (.app 3 1 8 19 21), o1 2 (.mv 22)]) .skip)))) (.reg [o1 23 (.bin .add 11 (ci 1)), o1 11 (.mv 23)]))))))) (.seq (.reg [o1 24 (.mv 2), o1 2 (.mv 24)]) .ret)))), [(2, none)]⟩
theorem x50 : xf Tryz.prog 50 = some F50 := by kernel_rfl
theorem con124s {t : Thread} : Con Tryz.prog 124 [.agg (encT t)] (.int .i64 (tRuns t), [], []) := by
  obtain ⟨a1, a2, a3, a4, a5, a6, a7, a8, a9, a10, a11⟩ := t; exact con124
def actL (s : State) (n : Nat) : List Int := (List.range n).filterMap fun i => if tRuns (s.threads.getD i default) = 0 then some (i : Int) else none
theorem actL_y {s : State} {n : Nat} (h : tRuns (s.threads.getD n default) = 0) : actL s (n + 1) = actL s n ++ [(n : Int)] := by
  unfold actL; rw [List.range_succ, List.filterMap_append]; simp only [List.filterMap_cons, List.filterMap_nil, if_pos h]
theorem actL_n {s : State} {n : Nat} (h : ¬ tRuns (s.threads.getD n default) = 0) : actL s (n + 1) = actL s n := by
  unfold actL; rw [List.range_succ, List.filterMap_append]; simp only [List.filterMap_cons, List.filterMap_nil, if_neg h, List.append_nil]
theorem actL_len {s : State} : ∀ n : Nat, (actL s n).length ≤ n
  | 0 => Nat.le_refl 0
  | n + 1 => by
    have := actL_len (s := s) n
    by_cases h : tRuns (s.threads.getD n default) = 0
    · rw [actL_y h]; simp; omega
    · rw [actL_n h]; omega
theorem wk_nil1 {l : List Int} (h : l = []) : Wk .slnil (.slv 1 (l.map encI)) := by subst h; exact Wk.nil _
theorem con50s {s : State} (hb : Bd s 10000000) : Con Tryz.prog 50 [.agg (encZ s)] (.slv 1 ((pActive s).map encI), [], []) := by
  have hb8 := hb.mono (n := 100000000) (by omega)
  by_cases hf : fabCheck s = true
  · have hl : s.threads.length ≤ 10000000 := by have := hb.all; omega
    rw [show pActive s = actL s s.threads.length from by unfold pActive; rw [if_neg (by simp [hf])]; rfl]
    refine mcb_of_vc mix x50 (by simp [F50]) fun hw _ => ?_
    clear hw
    repeat' with_reducible first | refine gTn_of (fun h => ?_) (fun h => ?_) | refine gT_of (fun h => ?_) (fun h => ?_) | refine caseTn_of (fun h => ?_) (fun h => ?_) | refine caseT_of (fun h => ?_) (fun h => ?_) | refine FN ?_ ?_ ?_ ?_ rfl ?_ | refine kv_ifn ?_ ?_ | refine kv_if ?_ ?_ | refine k_if ?_ ?_ | refine IA ?_ ?_ ?_ | refine L1 ?_ ?_ | refine L2 ?_ ?_ | refine L3 ?_ ?_ ?_ ?_ | refine L4 ?_ ?_ | refine L5 ?_ ?_ ?_ ?_ ?_ | refine L6 ?_ ?_ ?_ ?_ ?_ | refine AC.p0 (con32s ?_) ?_ (by simp -implicitDefEqProofs only [qU, pure_encZ]; done) ?_ ?_ | refine AC.p0 (con124s) ?_ (by simp -implicitDefEqProofs only [qU, pures, AV.pure, pure_encT, Bool.and_true]; done) ?_ ?_ | refine ia_of (d := default) ?_ ?_ | refine ap_nil (rw_slm _ _ _ _ _ _ (by simp -implicitDefEqProofs only [m_get, Nat.reduceEqDiff, reduceIte, if_true, if_false]; first | done | exact rfl) ?_) ?_ ?_ ?_ ?_ | refine ap_of (rw_slm _ _ _ _ _ _ (by simp -implicitDefEqProofs only [m_get, Nat.reduceEqDiff, reduceIte, if_true, if_false]; first | done | exact rfl) ?_) (by simp -implicitDefEqProofs only [m_get, Nat.reduceEqDiff, reduceIte, if_true, if_false]; first | done | exact rfl) ?_ ?_ ?_ ?_ | simp -implicitDefEqProofs only [F50, qA, ld_0, ld_pv, st_0, splice, doEqs, qU, List.reduceReplicate, Nat.reduceAdd, Nat.reduceSub, Nat.reduceLeDiff, Nat.reduceEqDiff, Nat.reduceMul, reduceIte, reduceCtorEq, qI, Nat.reduceLT, Nat.reduceBEq, up_s, Int.toNat_natCast, qZ, nl_s, nl_0, qC, qT, lm_normal, lm_exit, lm_ret, doBslice, trss_append, Int.natCast_zero, Int.reduceEq, Int.reduceNe, *]
    all_goals first
      | exact hb8
      | refine lm_of 4 (fun i : Nat => nl 2 (some (if actL s i = [] then .slnil else .slm 2 (actL s i).length) :: nl 6 (some (.slv 11 (s.threads.map encT)) :: some (.int .i64 s.threads.length) :: some (.int .i64 i) :: nl 13 []))) (fun i => if actL s i = [] then [] else [(2, .rows 3 1 ((actL s i).map encI))]) (fun i => i ≤ s.threads.length) (fun i => s.threads.length - i) [] [] 0 (by omega) ?_ ?_ ?_ ?_ ?_ ?_
      | omega
      | trace_state
    rotate_right
    · intro i hi
      have hal := actL_len (s := s) i
      clear hb8
      simp only [all_some, all_none, all_nil, nl_s, nl_0]
      intros
      by_cases hT : tRuns (s.threads.getD i default) = 0
      · have hA := actL_y hT
        by_cases hne : actL s i = []
        · simp -implicitDefEqProofs only [if_pos hne]
          rw [hne, List.nil_append] at hA
          repeat' with_reducible first | refine gTn_of (fun h => ?_) (fun h => ?_) | refine gT_of (fun h => ?_) (fun h => ?_) | refine caseTn_of (fun h => ?_) (fun h => ?_) | refine caseT_of (fun h => ?_) (fun h => ?_) | refine FN ?_ ?_ ?_ ?_ rfl ?_ | refine kv_ifn ?_ ?_ | refine kv_if ?_ ?_ | refine k_if ?_ ?_ | refine IA ?_ ?_ ?_ | refine L1 ?_ ?_ | refine L2 ?_ ?_ | refine L3 ?_ ?_ ?_ ?_ | refine L4 ?_ ?_ | refine L5 ?_ ?_ ?_ ?_ ?_ | refine L6 ?_ ?_ ?_ ?_ ?_ | refine AC.p0 (con32s ?_) ?_ (by simp -implicitDefEqProofs only [qU, pure_encZ]; done) ?_ ?_ | refine AC.p0 (con124s) ?_ (by simp -implicitDefEqProofs only [qU, pures, AV.pure, pure_encT, Bool.and_true]; done) ?_ ?_ | refine ia_of (d := default) ?_ ?_ | refine ap_nil (rw_slm _ _ _ _ _ _ (by simp -implicitDefEqProofs only [m_get, Nat.reduceEqDiff, reduceIte, if_true, if_false]; first | done | exact rfl) ?_) ?_ ?_ ?_ ?_ | refine ap_of (rw_slm _ _ _ _ _ _ (by simp -implicitDefEqProofs only [m_get, Nat.reduceEqDiff, reduceIte, if_true, if_false]; first | done | exact rfl) ?_) (by simp -implicitDefEqProofs only [m_get, Nat.reduceEqDiff, reduceIte, if_true, if_false]; first | done | exact rfl) ?_ ?_ ?_ ?_ | refine rm_of [] [(212, 2)] (i + 1) ?_ ?_ ?_ ?_ ?_ ?_ | simp -implicitDefEqProofs only [F50, qA, ld_0, ld_pv, st_0, splice, doEqs, qU, List.reduceReplicate, Nat.reduceAdd, Nat.reduceSub, Nat.reduceLeDiff, Nat.reduceEqDiff, Nat.reduceMul, reduceIte, reduceCtorEq, qI, Nat.reduceLT, Nat.reduceBEq, up_s, Int.toNat_natCast, qZ, nl_s, nl_0, qC, qT, lm_normal, lm_exit, lm_ret, doBslice, trss_append, Int.natCast_zero, Int.reduceEq, Int.reduceNe, hT, *]
          all_goals first
            | (have hlt := of_decide_eq_true h
               first
               | omega
               | exact ⟨by omega, by omega⟩
               | (simp [encI]; done)
               | (rw [List.map_append]; rfl)
               | exact wrap64 (by omega) (by omega)
               | (rw [wrap64 (by omega) (by omega)]; omega)
               | (rw [wrap64 (by omega) (by omega)]; simp; done))
            | (have hge := of_decide_eq_false h
               obtain rfl : i = s.threads.length := by omega
               first
               | exact wk_nil1 hne
               | exact Wk.refl _
               | (rw [List.take_of_length_le (by simp)]; exact Wk.refl _))
            | trace_state
        · simp -implicitDefEqProofs only [if_neg hne]
          have hB : (actL s i ++ [(i : Int)] = []) = False := by simp
          repeat' with_reducible first | refine gTn_of (fun h => ?_) (fun h => ?_) | refine gT_of (fun h => ?_) (fun h => ?_) | refine caseTn_of (fun h => ?_) (fun h => ?_) | refine caseT_of (fun h => ?_) (fun h => ?_) | refine FN ?_ ?_ ?_ ?_ rfl ?_ | refine kv_ifn ?_ ?_ | refine kv_if ?_ ?_ | refine k_if ?_ ?_ | refine IA ?_ ?_ ?_ | refine L1 ?_ ?_ | refine L2 ?_ ?_ | refine L3 ?_ ?_ ?_ ?_ | refine L4 ?_ ?_ | refine L5 ?_ ?_ ?_ ?_ ?_ | refine L6 ?_ ?_ ?_ ?_ ?_ | refine AC.p0 (con32s ?_) ?_ (by simp -implicitDefEqProofs only [qU, pure_encZ]; done) ?_ ?_ | refine AC.p0 (con124s) ?_ (by simp -implicitDefEqProofs only [qU, pures, AV.pure, pure_encT, Bool.and_true]; done) ?_ ?_ | refine ia_of (d := default) ?_ ?_ | refine ap_nil (rw_slm _ _ _ _ _ _ (by simp -implicitDefEqProofs only [m_get, Nat.reduceEqDiff, reduceIte, if_true, if_false]; first | done | exact rfl) ?_) ?_ ?_ ?_ ?_ | refine ap_of (rw_slm _ _ _ _ _ _ (by simp -implicitDefEqProofs only [m_get, Nat.reduceEqDiff, reduceIte, if_true, if_false]; first | done | exact rfl) ?_) (by simp -implicitDefEqProofs only [m_get, Nat.reduceEqDiff, reduceIte, if_true, if_false]; first | done | exact rfl) ?_ ?_ ?_ ?_ | refine rm_of [] [(212, 2)] (i + 1) ?_ ?_ ?_ ?_ ?_ ?_ | simp -implicitDefEqProofs only [F50, qA, ld_0, ld_pv, st_0, splice, doEqs, qU, List.reduceReplicate, Nat.reduceAdd, Nat.reduceSub, Nat.reduceLeDiff, Nat.reduceEqDiff, Nat.reduceMul, reduceIte, reduceCtorEq, qI, Nat.reduceLT, Nat.reduceBEq, up_s, Int.toNat_natCast, qZ, nl_s, nl_0, qC, qT, lm_normal, lm_exit, lm_ret, doBslice, trss_append, Int.natCast_zero, Int.reduceEq, Int.reduceNe, hT, *]
          all_goals first
            | (have hlt := of_decide_eq_true h
               first
               | omega
               | exact ⟨by omega, by omega⟩
               | (simp [encI]; done)
               | (rw [List.map_append]; rfl)
               | exact wrap64 (by omega) (by omega)
               | (rw [wrap64 (by omega) (by omega)]; omega)
               | (rw [wrap64 (by omega) (by omega)]; simp; done))
            | (have hge := of_decide_eq_false h
               obtain rfl : i = s.threads.length := by omega
               first
               | exact wk_nil1 hne
               | exact Wk.refl _
               | (rw [List.take_of_length_le (by simp)]; exact Wk.refl _))
            | trace_state
      · have hA := actL_n hT
        by_cases hne : actL s i = []
        · simp -implicitDefEqProofs only [if_pos hne]
          repeat' with_reducible first | refine gTn_of (fun h => ?_) (fun h => ?_) | refine gT_of (fun h => ?_) (fun h => ?_) | refine caseTn_of (fun h => ?_) (fun h => ?_) | refine caseT_of (fun h => ?_) (fun h => ?_) | refine FN ?_ ?_ ?_ ?_ rfl ?_ | refine kv_ifn ?_ ?_ | refine kv_if ?_ ?_ | refine k_if ?_ ?_ | refine IA ?_ ?_ ?_ | refine L1 ?_ ?_ | refine L2 ?_ ?_ | refine L3 ?_ ?_ ?_ ?_ | refine L4 ?_ ?_ | refine L5 ?_ ?_ ?_ ?_ ?_ | refine L6 ?_ ?_ ?_ ?_ ?_ | refine AC.p0 (con32s ?_) ?_ (by simp -implicitDefEqProofs only [qU, pure_encZ]; done) ?_ ?_ | refine AC.p0 (con124s) ?_ (by simp -implicitDefEqProofs only [qU, pures, AV.pure, pure_encT, Bool.and_true]; done) ?_ ?_ | refine ia_of (d := default) ?_ ?_ | refine ap_nil (rw_slm _ _ _ _ _ _ (by simp -implicitDefEqProofs only [m_get, Nat.reduceEqDiff, reduceIte, if_true, if_false]; first | done | exact rfl) ?_) ?_ ?_ ?_ ?_ | refine ap_of (rw_slm _ _ _ _ _ _ (by simp -implicitDefEqProofs only [m_get, Nat.reduceEqDiff, reduceIte, if_true, if_false]; first | done | exact rfl) ?_) (by simp -implicitDefEqProofs only [m_get, Nat.reduceEqDiff, reduceIte, if_true, if_false]; first | done | exact rfl) ?_ ?_ ?_ ?_ | refine rm_of [] [] (i + 1) ?_ ?_ ?_ ?_ ?_ ?_ | simp -implicitDefEqProofs only [F50, qA, ld_0, ld_pv, st_0, splice, doEqs, qU, List.reduceReplicate, Nat.reduceAdd, Nat.reduceSub, Nat.reduceLeDiff, Nat.reduceEqDiff, Nat.reduceMul, reduceIte, reduceCtorEq, qI, Nat.reduceLT, Nat.reduceBEq, up_s, Int.toNat_natCast, qZ, nl_s, nl_0, qC, qT, lm_normal, lm_exit, lm_ret, doBslice, trss_append, Int.natCast_zero, Int.reduceEq, Int.reduceNe, *]
          all_goals first
            | (have hlt := of_decide_eq_true h
               first
               | omega
               | exact ⟨by omega, by omega⟩
               | (simp [encI]; done)
               | (rw [List.map_append]; rfl)
               | exact wrap64 (by omega) (by omega)
               | (rw [wrap64 (by omega) (by omega)]; omega)
               | (rw [wrap64 (by omega) (by omega)]; simp; done))
            | (have hge := of_decide_eq_false h
               obtain rfl : i = s.threads.length := by omega
               first
               | exact wk_nil1 hne
               | exact Wk.refl _
               | (rw [List.take_of_length_le (by simp)]; exact Wk.refl _))
            | trace_state
        · simp -implicitDefEqProofs only [if_neg hne]
          repeat' with_reducible first | refine gTn_of (fun h => ?_) (fun h => ?_) | refine gT_of (fun h => ?_) (fun h => ?_) | refine caseTn_of (fun h => ?_) (fun h => ?_) | refine caseT_of (fun h => ?_) (fun h => ?_) | refine FN ?_ ?_ ?_ ?_ rfl ?_ | refine kv_ifn ?_ ?_ | refine kv_if ?_ ?_ | refine k_if ?_ ?_ | refine IA ?_ ?_ ?_ | refine L1 ?_ ?_ | refine L2 ?_ ?_ | refine L3 ?_ ?_ ?_ ?_ | refine L4 ?_ ?_ | refine L5 ?_ ?_ ?_ ?_ ?_ | refine L6 ?_ ?_ ?_ ?_ ?_ | refine AC.p0 (con32s ?_) ?_ (by simp -implicitDefEqProofs only [qU, pure_encZ]; done) ?_ ?_ | refine AC.p0 (con124s) ?_ (by simp -implicitDefEqProofs only [qU, pures, AV.pure, pure_encT, Bool.and_true]; done) ?_ ?_ | refine ia_of (d := default) ?_ ?_ | refine ap_nil (rw_slm _ _ _ _ _ _ (by simp -implicitDefEqProofs only [m_get, Nat.reduceEqDiff, reduceIte, if_true, if_false]; first | done | exact rfl) ?_) ?_ ?_ ?_ ?_ | refine ap_of (rw_slm _ _ _ _ _ _ (by simp -implicitDefEqProofs only [m_get, Nat.reduceEqDiff, reduceIte, if_true, if_false]; first | done | exact rfl) ?_) (by simp -implicitDefEqProofs only [m_get, Nat.reduceEqDiff, reduceIte, if_true, if_false]; first | done | exact rfl) ?_ ?_ ?_ ?_ | refine rm_of [] [(2, 2)] (i + 1) ?_ ?_ ?_ ?_ ?_ ?_ | simp -implicitDefEqProofs only [F50, qA, ld_0, ld_pv, st_0, splice, doEqs, qU, List.reduceReplicate, Nat.reduceAdd, Nat.reduceSub, Nat.reduceLeDiff, Nat.reduceEqDiff, Nat.reduceMul, reduceIte, reduceCtorEq, qI, Nat.reduceLT, Nat.reduceBEq, up_s, Int.toNat_natCast, qZ, nl_s, nl_0, qC, qT, lm_normal, lm_exit, lm_ret, doBslice, trss_append, Int.natCast_zero, Int.reduceEq, Int.reduceNe, *]
          all_goals first
            | (have hlt := of_decide_eq_true h
               first
               | omega
               | exact ⟨by omega, by omega⟩
               | (simp [encI]; done)
               | (rw [List.map_append]; rfl)
               | exact wrap64 (by omega) (by omega)
               | (rw [wrap64 (by omega) (by omega)]; omega)
               | (rw [wrap64 (by omega) (by omega)]; simp; done))
            | (have hge := of_decide_eq_false h
               obtain rfl : i = s.threads.length := by omega
               first
               | exact wk_nil1 hne
               | exact Wk.refl _
               | (rw [List.take_of_length_le (by simp)]; exact Wk.refl _))
            | trace_state
    all_goals first
      | omega
      | (have hA0 : actL s 0 = [] := rfl
         (simp -implicitDefEqProofs only [qA, ld_0, ld_pv, st_0, splice, doEqs, qU, List.reduceReplicate, Nat.reduceAdd, Nat.reduceSub, Nat.reduceLeDiff, Nat.reduceEqDiff, Nat.reduceMul, reduceIte, reduceCtorEq, qI, Nat.reduceLT, Nat.reduceBEq, qZ, nl_s, nl_0, hA0]; first | done | (simp; done)))
      | trace_state
  · rw [show pActive s = [] from by unfold pActive; rw [if_pos hf]]
    have hf := Bool.not_eq_true _ ▸ hf
    refine mcb_of_vc mix x50 (by simp [F50]) fun hw _ => ?_
    clear hw
    repeat' with_reducible first | refine gTn_of (fun h => ?_) (fun h => ?_) | refine gT_of (fun h => ?_) (fun h => ?_) | refine caseTn_of (fun h => ?_) (fun h => ?_) | refine caseT_of (fun h => ?_) (fun h => ?_) | refine FN ?_ ?_ ?_ ?_ rfl ?_ | refine kv_ifn ?_ ?_ | refine kv_if ?_ ?_ | refine k_if ?_ ?_ | refine IA ?_ ?_ ?_ | refine L1 ?_ ?_ | refine L2 ?_ ?_ | refine L3 ?_ ?_ ?_ ?_ | refine L4 ?_ ?_ | refine L5 ?_ ?_ ?_ ?_ ?_ | refine L6 ?_ ?_ ?_ ?_ ?_ | refine AC.p0 (con32s ?_) ?_ (by simp -implicitDefEqProofs only [qU, pure_encZ]; done) ?_ ?_ | refine AC.p0 (con124s) ?_ (by simp -implicitDefEqProofs only [qU, pures, AV.pure, pure_encT, Bool.and_true]; done) ?_ ?_ | refine ia_of (d := default) ?_ ?_ | refine ap_nil (rw_slm _ _ _ _ _ _ (by simp -implicitDefEqProofs only [m_get, Nat.reduceEqDiff, reduceIte, if_true, if_false]; first | done | exact rfl) ?_) ?_ ?_ ?_ ?_ | refine ap_of (rw_slm _ _ _ _ _ _ (by simp -implicitDefEqProofs only [m_get, Nat.reduceEqDiff, reduceIte, if_true, if_false]; first | done | exact rfl) ?_) (by simp -implicitDefEqProofs only [m_get, Nat.reduceEqDiff, reduceIte, if_true, if_false]; first | done | exact rfl) ?_ ?_ ?_ ?_ | simp -implicitDefEqProofs only [F50, qA, ld_0, ld_pv, st_0, splice, doEqs, qU, List.reduceReplicate, Nat.reduceAdd, Nat.reduceSub, Nat.reduceLeDiff, Nat.reduceEqDiff, Nat.reduceMul, reduceIte, reduceCtorEq, qI, Nat.reduceLT, Nat.reduceBEq, up_s, Int.toNat_natCast, qZ, nl_s, nl_0, qC, qT, lm_normal, lm_exit, lm_ret, doBslice, trss_append, Int.natCast_zero, Int.reduceEq, Int.reduceNe, *]
    all_goals first
      | exact hb8
      | exact Wk.nil _
      | trace_state

def F122 : AFn := ⟨7, (.seq (.reg [o1 1 (.box 33 0), o1 2 (.mv (.const (.bool false)))]) (.seq (.reg [o1 3 (.ld 20 true 1), o1 4 (.call 50 [3]), o1 5 (.len 4), o1 6 (.bin .eql 5 (ci 0)), o1 2 (.mv 6)]) .ret)), [(2, none)]⟩
theorem x122 : xf Tryz.prog 122 = some F122 := by kernel_rfl
theorem con122s {s : State} (hb : Bd s 10000000) : Con Tryz.prog 122 [.agg (encZ s)] (.bool (pQuiet s), [], []) := by
  refine mcb_of_vc mix x122 (by simp [F122]) fun hw _ => ?_
  clear hw
  repeat' with_reducible first | refine gTn_of (fun h => ?_) (fun h => ?_) | refine gT_of (fun h => ?_) (fun h => ?_) | refine caseTn_of (fun h => ?_) (fun h => ?_) | refine caseT_of (fun h => ?_) (fun h => ?_) | refine FN ?_ ?_ ?_ ?_ rfl ?_ | refine kv_ifn ?_ ?_ | refine kv_if ?_ ?_ | refine k_if ?_ ?_ | refine IA ?_ ?_ ?_ | refine L1 ?_ ?_ | refine L2 ?_ ?_ | refine L3 ?_ ?_ ?_ ?_ | refine L4 ?_ ?_ | refine L5 ?_ ?_ ?_ ?_ ?_ | refine L6 ?_ ?_ ?_ ?_ ?_ | refine AC.p0 (con50s ?_) ?_ (by simp -implicitDefEqProofs only [qU, pure_encZ]; done) ?_ ?_ | simp -implicitDefEqProofs only [F122, qA, ld_0, ld_pv, st_0, splice, doEqs, qU, List.reduceReplicate, Nat.reduceAdd, Nat.reduceSub, Nat.reduceLeDiff, Nat.reduceEqDiff, Nat.reduceMul, reduceIte, reduceCtorEq, qI, Nat.reduceLT, Nat.reduceBEq, up_s, Int.toNat_natCast, encT, qZ, *]
  all_goals first
    | exact hb
    | (refine Wk.of_eq ?_; unfold pQuiet; congr 1; simp; done)
    | trace_state

end Go.Sak
namespace Go.Sak
open Go Go.RowKit Go.Proofs
set_option linter.unusedVariables false
set_option linter.unusedSimpArgs false
set_option maxRecDepth 10000
set_option maxHeartbeats 8000000
def F123 : AFn := ⟨8, (.seq (.reg [o1 3 (.alloc 33 [(.int .i64 0), (.int .i64 0), (.int .i64 0), (.int .i64 0), (.int .i64 0), (.int .i64 0), (.bool false), (.int .i64 0), (.int .i64 0), (.int .i64 0), .slnil, .slnil, .slnil, (.int .i64 0), .slnil, (.int .i64 0), .slnil, (.int .i64 0), .slnil, .slnil]), o1 4 (.mv (ci 0))]) (.seq (.reg [o1 5 (.ld 20 true 1), o1 6 (.call 53 [5, (ci (-1))]), o1 7 (.mv 0), o2 (.st 20 3 6), o1 4 (.mv 7)]) .ret)), [(3, some (20, true)), (4, none)]⟩
theorem x123 : xf Tryz.prog 123 = some F123 := by kernel_rfl
theorem lf123 : F123.code.lf = true := rfl
def F125 : AFn := ⟨6, (.seq (.reg [o1 0 (.mv (.const .mapnil))]) (.seq (.reg [o1 1 (.mkmap), o1 2 (.build [.fnnil] [(0, 1, (.func 26))]), o2 (.mupd 1 (ci 1) 2), o1 3 (.build [.fnnil] [(0, 1, (.func 42))]), o2 (.mupd 1 (ci 2) 3), o1 4 (.build [.fnnil] [(0, 1, (.func 212))]), o2 (.mupd 1 (ci 3) 4), o1 5 (.mv 1), o1 0 (.mv 5)]) .ret)), [(0, none)]⟩
theorem x125 : xf Tryz.prog 125 = some F125 := by kernel_rfl
theorem lf125 : F125.code.lf = true := rfl
def F48 : AFn := ⟨55, (.seq (.reg [o1 2 (.box 33 0), o1 4 (.alloc 33 [(.int .i64 0), (.int .i64 0), (.int .i64 0), (.int .i64 0), (.int .i64 0), (.int .i64 0), (.bool false), (.int .i64 0), (.int .i64 0), (.int .i64 0), .slnil, .slnil, .slnil, (.int .i64 0), .slnil, (.int .i64 0), .slnil, (.int .i64 0), .slnil, .slnil]), o1 5 (.mv (ci 0))]) (.seq (.reg [o1 9 (.mkfn (.func 123) [] [2]), o1 6 (.mv 9)]) (.seq (.block 0 (.seq (.reg [o1 11 (.ld 20 true 2), o1 12 (.call 32 [11]), o1 13 (.not 12), o1 10 (.mv 13)]) (.cond 10 (.seq (.reg [o1 14 (.mv 6), o1 15 (.callv 14 [(ci 20)]), o1 16 (.ext 15 0), o1 17 (.ext 15 1), o2 (.st 20 4 16), o1 5 (.mv 17)]) .ret) (.seq (.reg [o1 19 (.mv 1), o1 20 (.bin .lss 19 (ci 0)), o1 21 (.mv 20), o4 22 (.mv 1) 21, o4 23 (.faddr 18 2) 21, o4 24 (.ld 1 false 23) 21, o4 25 (.len 24) 21, o4 26 (.bin .geq 22 25) 21, o1 27 (.pick 21 (.const (.bool true)) 26), o1 18 (.mv 27)]) (.cond 18 (.seq (.reg [o1 28 (.mv 6), o1 29 (.callv 28 [(ci 123)]), o1 30 (.ext 29 0), o1 31 (.ext 29 1), o2 (.st 20 4 30), o1 5 (.mv 31)]) .ret) .skip))))) (.seq (.reg [o1 32 (.faddr 18 2), o1 33 (.ld 1 false 32), o1 34 (.mv 1), o1 35 (.iaddr 11 33 34), o1 36 (.ld 11 true 35), o1 7 (.alloc 44 [(.int .i64 0), (.int .i64 0), (.int .i64 0), (.int .i64 0), (.int .i64 0), (.int .i64 0), (.int .i64 0), (.int .i64 0), (.bool false), (.int .i64 0), (.int .i64 0)]), o2 (.st 11 7 36)]) (.seq (.seq (.reg [o1 37 (.ld 11 true 7), o1 38 (.call 124 [37]), o1 8 (.mv 38)]) (.seq (.reg [o1 39 (.mv 8), o1 40 (.bin .neq 39 (ci 0))]) (.cond 40 (.seq (.reg [o1 41 (.mv 6), o1 42 (.mv 8), o1 43 (.callv 41 [42]), o1 44 (.ext 43 0), o1 45 (.ext 43 1), o2 (.st 20 4 44), o1 5 (.mv 45)]) .ret) .skip))) (.seq (.regT [o1 46 (.call 125 []), o1 47 (.faddr 1 7), o1 48 (.ld 1 false 47), o1 49 (.call 126 [48]), o1 50 (.lkp (.agg [.fnnil]) false 46 49), o1 51 (.fld 0 1 false 50), o1 52 (.ld 20 true 2), o1 53 (.mv 1), o1 54 (.callv 51 [52, 53]), o2 (.st 20 4 54), o1 5 (.mv (ci 0))] [(0, 1), (0, 2), (0, 6), (1, 6), (2, 6), (3, 6), (4, 6)]) .ret)))))), [(4, some (20, true)), (5, none)]⟩
theorem x48 : xf Tryz.prog 48 = some F48 := by kernel_rfl
theorem side_of {s : State} {id : Int} (hf : fabIs s id = true) (hr : tRuns (me s id) = 0) : opSide (me s id).kind = 1 ∨ opSide (me s id).kind = 2 ∨ opSide (me s id).kind = 3 := by
  have hR : Rn s id := rn_of hf hr
  have hk := hR.tc
  simp only [tCheck, tKind, opCheck, Bool.and_eq_true, Bool.or_eq_true, decide_eq_true_eq] at hk
  have hst : ¬ (me s id).st = 0 := by intro h; rw [tRuns, if_pos h] at hr; simp at hr
  have hs : opSide (me s id).kind > 0 := by
    rcases hk.1.1.1.2 with h | h
    · exact h
    · exact absurd h.2 hst
  unfold opSide at hs ⊢
  split
  · exact .inl rfl
  · split
    · exact .inr (.inl rfl)
    · split
      · exact .inr (.inr rfl)
      · simp_all
theorem con48s {s : State} {id : Int} (hb : Bd s 100000000) : Con Tryz.prog 48 [.agg (encZ s), .int .i64 id] (.tup [.agg (encZ (pPick s id).1), .int .i64 (pPick s id).2], [], []) := by
  by_cases hf : fabIs s id = true
  · have hf' := hf
    simp only [fabIs, Bool.and_eq_true, decide_eq_true_eq] at hf'
    obtain ⟨⟨hck, hge⟩, hlt⟩ := hf'
    have hd1 : decide (id < 0) = false := by simp; omega
    have hd2 : decide (id ≥ (s.threads.length : Int)) = false := by simp; omega
    have hid : id.toNat < s.threads.length := by omega
    by_cases hr : tRuns (me s id) = 0
    · have hp : pPick s id = (pSide s id, 0) := by unfold pPick; rw [if_neg (by simp [hck]), if_neg (by omega), if_neg (by simp [hr])]
      rw [hp]
      rcases side_of hf hr with hs | hs | hs
      · rw [show pSide s id = sStep s id from if_pos hs]
        unfold me at hr hs
        refine mcb_of_vc mix x48 (by simp [F48]) fun hw _ => ?_
        clear hw hf hp
        repeat' with_reducible first | refine gTn_of (fun h => ?_) (fun h => ?_) | refine gT_of (fun h => ?_) (fun h => ?_) | refine caseTn_of (fun h => ?_) (fun h => ?_) | refine caseT_of (fun h => ?_) (fun h => ?_) | refine FN ?_ ?_ ?_ ?_ rfl ?_ | refine kv_ifn ?_ ?_ | refine kv_if ?_ ?_ | refine k_if ?_ ?_ | refine IA ?_ ?_ ?_ | refine L1 ?_ ?_ | refine L2 ?_ ?_ | refine L3 ?_ ?_ ?_ ?_ | refine L4 ?_ ?_ | refine L5 ?_ ?_ ?_ ?_ ?_ | refine L6 ?_ ?_ ?_ ?_ ?_ | refine AC.inl2 mix x123 lf123 (by simp [F123]) ?_ (by simp -implicitDefEqProofs only [qA, ld_0, ld_pv, st_0, splice, doEqs, qU, List.reduceReplicate, Nat.reduceAdd, Nat.reduceSub, Nat.reduceLeDiff, Nat.reduceEqDiff, Nat.reduceMul, reduceIte, reduceCtorEq, qI, Nat.reduceLT, Nat.reduceBEq, qZ, qM, *]; exact rfl) ?_ ?_ ?_ ?_ | refine I2 mix x125 lf125 ?_ ?_ ?_ ?_ ?_ | refine IA ?_ ?_ ?_ | refine IAm [(209, 209)] ?_ ?_ ?_ | refine AC.p0 (con32s ?_) ?_ (by simp -implicitDefEqProofs only [qU, pure_encZ]; done) ?_ ?_ | refine AC.p0 (con53s ?_) ?_ (by simp -implicitDefEqProofs only [qU, pure_encZ]; done) ?_ ?_ | refine AC.p0 (con26s ?_) ?_ (by simp -implicitDefEqProofs only [qU, pure_encZ]; done) ?_ ?_ | refine AC.p0 (con42s ?_) ?_ (by simp -implicitDefEqProofs only [qU, pure_encZ]; done) ?_ ?_ | refine AC.p0 (con212s ?_) ?_ (by simp -implicitDefEqProofs only [qU, pure_encZ]; done) ?_ ?_ | refine AC.p0 (con124s) ?_ (by simp -implicitDefEqProofs only [qU, pures, AV.pure, pure_encT, Bool.and_true]; done) ?_ ?_ | refine ia_of (d := default) ?_ ?_ | refine P0 (con126) ?_ ?_ ?_ | refine ACV.of (con126) ?_ ?_ ?_ | refine ACK.of (con126) ?_ ?_ | simp -implicitDefEqProofs only [F48, qA, ld_0, ld_pv, st_0, splice, doEqs, qU, List.reduceReplicate, Nat.reduceAdd, Nat.reduceSub, Nat.reduceLeDiff, Nat.reduceEqDiff, Nat.reduceMul, reduceIte, reduceCtorEq, qI, Nat.reduceLT, Nat.reduceBEq, up_s, Int.toNat_natCast, F123, qZ, qC, qT, doLkp, mfind, keyEq, AV.isInt, doMupd, Blk.inN, Blk.nms, List.flatMap_cons, List.flatMap_nil, Int.reduceEq, Int.reduceNe, Int.natCast_zero, wake_m1, F125, *]
        all_goals first
          | exact Wk.refl _
          | (refine Nat.le_of_eq_of_le ?_ (by assumption); done)
          | exact hb
          | omega
          | (exfalso; simp only [decide_eq_false_iff_not] at *; omega)
          | trace_state
      · rw [show pSide s id = gStep s id from by unfold pSide; rw [if_neg (by omega), if_pos hs]]
        unfold me at hr hs
        refine mcb_of_vc mix x48 (by simp [F48]) fun hw _ => ?_
        clear hw hf hp
        repeat' with_reducible first | refine gTn_of (fun h => ?_) (fun h => ?_) | refine gT_of (fun h => ?_) (fun h => ?_) | refine caseTn_of (fun h => ?_) (fun h => ?_) | refine caseT_of (fun h => ?_) (fun h => ?_) | refine FN ?_ ?_ ?_ ?_ rfl ?_ | refine kv_ifn ?_ ?_ | refine kv_if ?_ ?_ | refine k_if ?_ ?_ | refine IA ?_ ?_ ?_ | refine L1 ?_ ?_ | refine L2 ?_ ?_ | refine L3 ?_ ?_ ?_ ?_ | refine L4 ?_ ?_ | refine L5 ?_ ?_ ?_ ?_ ?_ | refine L6 ?_ ?_ ?_ ?_ ?_ | refine AC.inl2 mix x123 lf123 (by simp [F123]) ?_ (by simp -implicitDefEqProofs only [qA, ld_0, ld_pv, st_0, splice, doEqs, qU, List.reduceReplicate, Nat.reduceAdd, Nat.reduceSub, Nat.reduceLeDiff, Nat.reduceEqDiff, Nat.reduceMul, reduceIte, reduceCtorEq, qI, Nat.reduceLT, Nat.reduceBEq, qZ, qM, *]; exact rfl) ?_ ?_ ?_ ?_ | refine I2 mix x125 lf125 ?_ ?_ ?_ ?_ ?_ | refine IA ?_ ?_ ?_ | refine IAm [(209, 209)] ?_ ?_ ?_ | refine AC.p0 (con32s ?_) ?_ (by simp -implicitDefEqProofs only [qU, pure_encZ]; done) ?_ ?_ | refine AC.p0 (con53s ?_) ?_ (by simp -implicitDefEqProofs only [qU, pure_encZ]; done) ?_ ?_ | refine AC.p0 (con26s ?_) ?_ (by simp -implicitDefEqProofs only [qU, pure_encZ]; done) ?_ ?_ | refine AC.p0 (con42s ?_) ?_ (by simp -implicitDefEqProofs only [qU, pure_encZ]; done) ?_ ?_ | refine AC.p0 (con212s ?_) ?_ (by simp -implicitDefEqProofs only [qU, pure_encZ]; done) ?_ ?_ | refine AC.p0 (con124s) ?_ (by simp -implicitDefEqProofs only [qU, pures, AV.pure, pure_encT, Bool.and_true]; done) ?_ ?_ | refine ia_of (d := default) ?_ ?_ | refine P0 (con126) ?_ ?_ ?_ | refine ACV.of (con126) ?_ ?_ ?_ | refine ACK.of (con126) ?_ ?_ | simp -implicitDefEqProofs only [F48, qA, ld_0, ld_pv, st_0, splice, doEqs, qU, List.reduceReplicate, Nat.reduceAdd, Nat.reduceSub, Nat.reduceLeDiff, Nat.reduceEqDiff, Nat.reduceMul, reduceIte, reduceCtorEq, qI, Nat.reduceLT, Nat.reduceBEq, up_s, Int.toNat_natCast, F123, qZ, qC, qT, doLkp, mfind, keyEq, AV.isInt, doMupd, Blk.inN, Blk.nms, List.flatMap_cons, List.flatMap_nil, Int.reduceEq, Int.reduceNe, Int.natCast_zero, wake_m1, F125, *]
        all_goals first
          | exact Wk.refl _
          | (refine Nat.le_of_eq_of_le ?_ (by assumption); done)
          | exact hb
          | omega
          | (exfalso; simp only [decide_eq_false_iff_not] at *; omega)
          | trace_state
      · rw [show pSide s id = cStep s id from by unfold pSide; rw [if_neg (by omega), if_neg (by omega)]]
        unfold me at hr hs
        refine mcb_of_vc mix x48 (by simp [F48]) fun hw _ => ?_
        clear hw hf hp
        repeat' with_reducible first | refine gTn_of (fun h => ?_) (fun h => ?_) | refine gT_of (fun h => ?_) (fun h => ?_) | refine caseTn_of (fun h => ?_) (fun h => ?_) | refine caseT_of (fun h => ?_) (fun h => ?_) | refine FN ?_ ?_ ?_ ?_ rfl ?_ | refine kv_ifn ?_ ?_ | refine kv_if ?_ ?_ | refine k_if ?_ ?_ | refine IA ?_ ?_ ?_ | refine L1 ?_ ?_ | refine L2 ?_ ?_ | refine L3 ?_ ?_ ?_ ?_ | refine L4 ?_ ?_ | refine L5 ?_ ?_ ?_ ?_ ?_ | refine L6 ?_ ?_ ?_ ?_ ?_ | refine AC.inl2 mix x123 lf123 (by simp [F123]) ?_ (by simp -implicitDefEqProofs only [qA, ld_0, ld_pv, st_0, splice, doEqs, qU, List.reduceReplicate, Nat.reduceAdd, Nat.reduceSub, Nat.reduceLeDiff, Nat.reduceEqDiff, Nat.reduceMul, reduceIte, reduceCtorEq, qI, Nat.reduceLT, Nat.reduceBEq, qZ, qM, *]; exact rfl) ?_ ?_ ?_ ?_ | refine I2 mix x125 lf125 ?_ ?_ ?_ ?_ ?_ | refine IA ?_ ?_ ?_ | refine IAm [(209, 209)] ?_ ?_ ?_ | refine AC.p0 (con32s ?_) ?_ (by simp -implicitDefEqProofs only [qU, pure_encZ]; done) ?_ ?_ | refine AC.p0 (con53s ?_) ?_ (by simp -implicitDefEqProofs only [qU, pure_encZ]; done) ?_ ?_ | refine AC.p0 (con26s ?_) ?_ (by simp -implicitDefEqProofs only [qU, pure_encZ]; done) ?_ ?_ | refine AC.p0 (con42s ?_) ?_ (by simp -implicitDefEqProofs only [qU, pure_encZ]; done) ?_ ?_ | refine AC.p0 (con212s ?_) ?_ (by simp -implicitDefEqProofs only [qU, pure_encZ]; done) ?_ ?_ | refine AC.p0 (con124s) ?_ (by simp -implicitDefEqProofs only [qU, pures, AV.pure, pure_encT, Bool.and_true]; done) ?_ ?_ | refine ia_of (d := default) ?_ ?_ | refine P0 (con126) ?_ ?_ ?_ | refine ACV.of (con126) ?_ ?_ ?_ | refine ACK.of (con126) ?_ ?_ | simp -implicitDefEqProofs only [F48, qA, ld_0, ld_pv, st_0, splice, doEqs, qU, List.reduceReplicate, Nat.reduceAdd, Nat.reduceSub, Nat.reduceLeDiff, Nat.reduceEqDiff, Nat.reduceMul, reduceIte, reduceCtorEq, qI, Nat.reduceLT, Nat.reduceBEq, up_s, Int.toNat_natCast, F123, qZ, qC, qT, doLkp, mfind, keyEq, AV.isInt, doMupd, Blk.inN, Blk.nms, List.flatMap_cons, List.flatMap_nil, Int.reduceEq, Int.reduceNe, Int.natCast_zero, wake_m1, F125, *]
        all_goals first
          | exact Wk.refl _
          | (refine Nat.le_of_eq_of_le ?_ (by assumption); done)
          | exact hb
          | omega
          | (exfalso; simp only [decide_eq_false_iff_not] at *; omega)
          | trace_state
    · have hp : pPick s id = (s, tRuns (me s id)) := by unfold pPick; rw [if_neg (by simp [hck]), if_neg (by omega), if_pos hr]
      rw [hp]
      unfold me at hr ⊢
      refine mcb_of_vc mix x48 (by simp [F48]) fun hw _ => ?_
      clear hw hf hp
      repeat' with_reducible first | refine gTn_of (fun h => ?_) (fun h => ?_) | refine gT_of (fun h => ?_) (fun h => ?_) | refine caseTn_of (fun h => ?_) (fun h => ?_) | refine caseT_of (fun h => ?_) (fun h => ?_) | refine FN ?_ ?_ ?_ ?_ rfl ?_ | refine kv_ifn ?_ ?_ | refine kv_if ?_ ?_ | refine k_if ?_ ?_ | refine IA ?_ ?_ ?_ | refine L1 ?_ ?_ | refine L2 ?_ ?_ | refine L3 ?_ ?_ ?_ ?_ | refine L4 ?_ ?_ | refine L5 ?_ ?_ ?_ ?_ ?_ | refine L6 ?_ ?_ ?_ ?_ ?_ | refine AC.inl2 mix x123 lf123 (by simp [F123]) ?_ (by simp -implicitDefEqProofs only [qA, ld_0, ld_pv, st_0, splice, doEqs, qU, List.reduceReplicate, Nat.reduceAdd, Nat.reduceSub, Nat.reduceLeDiff, Nat.reduceEqDiff, Nat.reduceMul, reduceIte, reduceCtorEq, qI, Nat.reduceLT, Nat.reduceBEq, qZ, qM, *]; exact rfl) ?_ ?_ ?_ ?_ | refine I2 mix x125 lf125 ?_ ?_ ?_ ?_ ?_ | refine IA ?_ ?_ ?_ | refine IAm [(209, 209)] ?_ ?_ ?_ | refine AC.p0 (con32s ?_) ?_ (by simp -implicitDefEqProofs only [qU, pure_encZ]; done) ?_ ?_ | refine AC.p0 (con53s ?_) ?_ (by simp -implicitDefEqProofs only [qU, pure_encZ]; done) ?_ ?_ | refine AC.p0 (con26s ?_) ?_ (by simp -implicitDefEqProofs only [qU, pure_encZ]; done) ?_ ?_ | refine AC.p0 (con42s ?_) ?_ (by simp -implicitDefEqProofs only [qU, pure_encZ]; done) ?_ ?_ | refine AC.p0 (con212s ?_) ?_ (by simp -implicitDefEqProofs only [qU, pure_encZ]; done) ?_ ?_ | refine AC.p0 (con124s) ?_ (by simp -implicitDefEqProofs only [qU, pures, AV.pure, pure_encT, Bool.and_true]; done) ?_ ?_ | refine ia_of (d := default) ?_ ?_ | refine P0 (con126) ?_ ?_ ?_ | refine ACV.of (con126) ?_ ?_ ?_ | refine ACK.of (con126) ?_ ?_ | simp -implicitDefEqProofs only [F48, qA, ld_0, ld_pv, st_0, splice, doEqs, qU, List.reduceReplicate, Nat.reduceAdd, Nat.reduceSub, Nat.reduceLeDiff, Nat.reduceEqDiff, Nat.reduceMul, reduceIte, reduceCtorEq, qI, Nat.reduceLT, Nat.reduceBEq, up_s, Int.toNat_natCast, F123, qZ, qC, qT, doLkp, mfind, keyEq, AV.isInt, doMupd, Blk.inN, Blk.nms, List.flatMap_cons, List.flatMap_nil, Int.reduceEq, Int.reduceNe, Int.natCast_zero, wake_m1, F125, *]
      all_goals first
        | exact Wk.refl _
        | (refine Nat.le_of_eq_of_le ?_ (by assumption); done)
        | exact hb
        | omega
        | (exfalso; simp only [decide_eq_false_iff_not] at *; omega)
        | trace_state
  · by_cases hck : fabCheck s = true
    · have hid : id < 0 ∨ id ≥ s.threads.length := by simp only [fabIs, hck, Bool.and_eq_true, decide_eq_true_eq, true_and] at hf; omega
      rw [show pPick s id = (s, 123) from by unfold pPick; rw [if_neg (by simp [hck]), if_pos hid]]
      clear hf
      refine mcb_of_vc mix x48 (by simp [F48]) fun hw _ => ?_
      clear hw
      repeat' with_reducible first | refine gTn_of (fun h => ?_) (fun h => ?_) | refine gT_of (fun h => ?_) (fun h => ?_) | refine caseTn_of (fun h => ?_) (fun h => ?_) | refine caseT_of (fun h => ?_) (fun h => ?_) | refine FN ?_ ?_ ?_ ?_ rfl ?_ | refine kv_ifn ?_ ?_ | refine kv_if ?_ ?_ | refine k_if ?_ ?_ | refine IA ?_ ?_ ?_ | refine L1 ?_ ?_ | refine L2 ?_ ?_ | refine L3 ?_ ?_ ?_ ?_ | refine L4 ?_ ?_ | refine L5 ?_ ?_ ?_ ?_ ?_ | refine L6 ?_ ?_ ?_ ?_ ?_ | refine AC.inl2 mix x123 lf123 (by simp [F123]) ?_ (by simp -implicitDefEqProofs only [qA, ld_0, ld_pv, st_0, splice, doEqs, qU, List.reduceReplicate, Nat.reduceAdd, Nat.reduceSub, Nat.reduceLeDiff, Nat.reduceEqDiff, Nat.reduceMul, reduceIte, reduceCtorEq, qI, Nat.reduceLT, Nat.reduceBEq, qZ, qM, *]; exact rfl) ?_ ?_ ?_ ?_ | refine I2 mix x125 lf125 ?_ ?_ ?_ ?_ ?_ | refine IA ?_ ?_ ?_ | refine IAm [(209, 209)] ?_ ?_ ?_ | refine AC.p0 (con32s ?_) ?_ (by simp -implicitDefEqProofs only [qU, pure_encZ]; done) ?_ ?_ | refine AC.p0 (con53s ?_) ?_ (by simp -implicitDefEqProofs only [qU, pure_encZ]; done) ?_ ?_ | refine AC.p0 (con26s ?_) ?_ (by simp -implicitDefEqProofs only [qU, pure_encZ]; done) ?_ ?_ | refine AC.p0 (con42s ?_) ?_ (by simp -implicitDefEqProofs only [qU, pure_encZ]; done) ?_ ?_ | refine AC.p0 (con212s ?_) ?_ (by simp -implicitDefEqProofs only [qU, pure_encZ]; done) ?_ ?_ | refine AC.p0 (con124s) ?_ (by simp -implicitDefEqProofs only [qU, pures, AV.pure, pure_encT, Bool.and_true]; done) ?_ ?_ | refine ia_of (d := default) ?_ ?_ | refine P0 (con126) ?_ ?_ ?_ | refine ACV.of (con126) ?_ ?_ ?_ | refine ACK.of (con126) ?_ ?_ | simp -implicitDefEqProofs only [F48, qA, ld_0, ld_pv, st_0, splice, doEqs, qU, List.reduceReplicate, Nat.reduceAdd, Nat.reduceSub, Nat.reduceLeDiff, Nat.reduceEqDiff, Nat.reduceMul, reduceIte, reduceCtorEq, qI, Nat.reduceLT, Nat.reduceBEq, up_s, Int.toNat_natCast, F123, qZ, qC, qT, doLkp, mfind, keyEq, AV.isInt, doMupd, Blk.inN, Blk.nms, List.flatMap_cons, List.flatMap_nil, Int.reduceEq, Int.reduceNe, Int.natCast_zero, wake_m1, F125, *]
      all_goals first
        | exact Wk.refl _
        | (refine Nat.le_of_eq_of_le ?_ (by assumption); done)
        | exact hb
        | omega
        | (exfalso; simp only [decide_eq_false_iff_not] at *; omega)
        | trace_state
    · rw [show pPick s id = (s, 20) from by unfold pPick; rw [if_pos hck]]
      have hck := Bool.not_eq_true _ ▸ hck
      clear hf
      refine mcb_of_vc mix x48 (by simp [F48]) fun hw _ => ?_
      clear hw
      repeat' with_reducible first | refine gTn_of (fun h => ?_) (fun h => ?_) | refine gT_of (fun h => ?_) (fun h => ?_) | refine caseTn_of (fun h => ?_) (fun h => ?_) | refine caseT_of (fun h => ?_) (fun h => ?_) | refine FN ?_ ?_ ?_ ?_ rfl ?_ | refine kv_ifn ?_ ?_ | refine kv_if ?_ ?_ | refine k_if ?_ ?_ | refine IA ?_ ?_ ?_ | refine L1 ?_ ?_ | refine L2 ?_ ?_ | refine L3 ?_ ?_ ?_ ?_ | refine L4 ?_ ?_ | refine L5 ?_ ?_ ?_ ?_ ?_ | refine L6 ?_ ?_ ?_ ?_ ?_ | refine AC.inl2 mix x123 lf123 (by simp [F123]) ?_ (by simp -implicitDefEqProofs only [qA, ld_0, ld_pv, st_0, splice, doEqs, qU, List.reduceReplicate, Nat.reduceAdd, Nat.reduceSub, Nat.reduceLeDiff, Nat.reduceEqDiff, Nat.reduceMul, reduceIte, reduceCtorEq, qI, Nat.reduceLT, Nat.reduceBEq, qZ, qM, *]; exact rfl) ?_ ?_ ?_ ?_ | refine I2 mix x125 lf125 ?_ ?_ ?_ ?_ ?_ | refine IA ?_ ?_ ?_ | refine IAm [(209, 209)] ?_ ?_ ?_ | refine AC.p0 (con32s ?_) ?_ (by simp -implicitDefEqProofs only [qU, pure_encZ]; done) ?_ ?_ | refine AC.p0 (con53s ?_) ?_ (by simp -implicitDefEqProofs only [qU, pure_encZ]; done) ?_ ?_ | refine AC.p0 (con26s ?_) ?_ (by simp -implicitDefEqProofs only [qU, pure_encZ]; done) ?_ ?_ | refine AC.p0 (con42s ?_) ?_ (by simp -implicitDefEqProofs only [qU, pure_encZ]; done) ?_ ?_ | refine AC.p0 (con212s ?_) ?_ (by simp -implicitDefEqProofs only [qU, pure_encZ]; done) ?_ ?_ | refine AC.p0 (con124s) ?_ (by simp -implicitDefEqProofs only [qU, pures, AV.pure, pure_encT, Bool.and_true]; done) ?_ ?_ | refine ia_of (d := default) ?_ ?_ | refine P0 (con126) ?_ ?_ ?_ | refine ACV.of (con126) ?_ ?_ ?_ | refine ACK.of (con126) ?_ ?_ | simp -implicitDefEqProofs only [F48, qA, ld_0, ld_pv, st_0, splice, doEqs, qU, List.reduceReplicate, Nat.reduceAdd, Nat.reduceSub, Nat.reduceLeDiff, Nat.reduceEqDiff, Nat.reduceMul, reduceIte, reduceCtorEq, qI, Nat.reduceLT, Nat.reduceBEq, up_s, Int.toNat_natCast, F123, qZ, qC, qT, doLkp, mfind, keyEq, AV.isInt, doMupd, Blk.inN, Blk.nms, List.flatMap_cons, List.flatMap_nil, Int.reduceEq, Int.reduceNe, Int.natCast_zero, wake_m1, F125, *]
      all_goals first
        | exact Wk.refl _
        | (refine Nat.le_of_eq_of_le ?_ (by assumption); done)
        | exact hb
        | omega
        | (exfalso; simp only [decide_eq_false_iff_not] at *; omega)
        | trace_state

end Go.Sak
