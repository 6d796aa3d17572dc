/- Part S79 of the proofs about the program: K90. Conditions: none. -/
import Derived.Test.YtojlofaafkdhgaaGreatS78
import Derived.Test.YtojlofaafkdhgaaGreatS43
import Derived.Test.YtojlofaafkdhgaaGreatS04
import Derived.Test.YtojlofaafkdhgaaGreatProg
import Derived.KernelRfl
namespace Go.Sak
open Go Go.RowKit Go.Proofs
set_option linter.unusedVariables false
set_option linter.unusedSimpArgs false
set_option maxRecDepth 10000
set_option maxHeartbeats 8000000
def F16 : AFn := ⟨47, (.seq (.reg [o1 2 (.box 33 0), o1 4 (.mv (.const (.bool false)))]) (.seq (.reg [o1 8 (.call 47 []), o1 5 (.mv 8)]) (.seq (.seq (.reg [o1 9 (.ld 20 true 2), o1 10 (.call 22 [9]), o1 11 (.not 10)]) (.cond 11 (.seq (.reg [o1 12 (.mv 5), o1 4 (.mv 12)]) .ret) .skip)) (.seq (.reg [o1 14 (.ld 20 true 2), o1 15 (.mv 1), o1 16 (.call 48 [14, 15]), o1 13 (.mv 16), o1 17 (.ext 13 0), o1 18 (.ext 13 1), o1 6 (.alloc 33 [(.int .i64 0), (.int .i64 0), (.int .i64 0), (.int .i64 0), (.int .i64 0), (.int .i64 0), (.bool false), (.int .i64 0), (.int .i64 0), (.int .i64 0), .slnil, .slnil, .slnil, (.int .i64 0), .slnil, (.int .i64 0), .slnil, (.int .i64 0), .slnil, .slnil]), o2 (.st 20 6 17), o1 7 (.mv 18)]) (.seq (.reg [o1 19 (.mv 5), o1 20 (.mv 19), o3 21 (.mv 7) 20, o3 22 (.bin .neq 21 (ci 0)) 20, o3 23 (.mv 22) 20, o3 24 (.ld 20 true 6) 23, o3 25 (.ld 20 true 2) 23, o3 26 (.call 25 [24, 25]) 23, o3 27 (.pick 23 26 (.const (.bool false))) 20, o3 28 (.mv 27) 20, o4 29 (.mv 7) 28, o4 30 (.bin .eql 29 (ci 0)) 28, o4 31 (.mv 30) 28, o3 32 (.ld 20 true 2) 31, o3 33 (.call 32 [32]) 31, o4 34 (.pick 31 33 (.const (.bool false))) 28, o4 35 (.mv 34) 28, o3 36 (.ld 20 true 6) 35, o3 37 (.call 32 [36]) 35, o4 38 (.pick 35 37 (.const (.bool false))) 28, o4 39 (.mv 38) 28, o3 40 (.ld 20 true 2) 39, o3 41 (.ld 20 true 6) 39, o3 42 (.call 30 [40, 41]) 39, o3 43 (.bin .leq 42 (ci 1)) 39, o4 44 (.pick 39 43 (.const (.bool false))) 28, o3 45 (.pick 28 (.const (.bool true)) 44) 20, o1 46 (.pick 20 45 (.const (.bool false))), o1 4 (.mv 46)]) .ret))))), [(4, none)]⟩
theorem x16 : xf Tryz.prog 16 = some F16 := by kernel_rfl
theorem con16 {s : State} {id : Int} : Con Tryz.prog 16 [.agg (encZ s), .int .i64 id] (.bool true, [], []) := by
  by_cases he : (pPick s id).2 = 0
  · have hck : fabCheck s = true := by
      have h := (p_ok.1 he).1
      simp only [fabIs, Bool.and_eq_true] at h; exact h.1.1
    have hca : fabCheck (pPick s id).1 = true := fab_iff.2 (p_stays (fab_iff.1 hck))
    have hth := p_things (s := s) (id := id)
    refine mcb_of_vc mix x16 (by simp [F16]) fun hw _ => ?_
    clear hw
    repeat' with_reducible first | refine gTn_of (fun h => ?_) (fun h => ?_) | refine gT_of (fun h => ?_) (fun h => ?_) | refine caseTn_of (fun h => ?_) (fun h => ?_) | refine caseT_of (fun h => ?_) (fun h => ?_) | refine FN ?_ ?_ ?_ ?_ rfl ?_ | refine kv_ifn ?_ ?_ | refine kv_if ?_ ?_ | refine k_if ?_ ?_ | refine IA ?_ ?_ ?_ | refine L1 ?_ ?_ | refine L2 ?_ ?_ | refine L3 ?_ ?_ ?_ ?_ | refine L4 ?_ ?_ | refine L5 ?_ ?_ ?_ ?_ ?_ | refine L6 ?_ ?_ ?_ ?_ ?_ | refine AC.p0 (con47 ) ?_ (by simp -implicitDefEqProofs only [qU, pure_encZ]; done) ?_ ?_ | refine AC.p0 (con22s ) ?_ (by simp -implicitDefEqProofs only [qU, pure_encZ]; done) ?_ ?_ | refine AC.p0 (con48s ?_) ?_ (by simp -implicitDefEqProofs only [qU, pure_encZ]; done) ?_ ?_ | refine AC.p0 (con32s ?_) ?_ (by simp -implicitDefEqProofs only [qU, pure_encZ]; done) ?_ ?_ | refine AC.p0 (con25s ?_) ?_ (by simp -implicitDefEqProofs only [qU, pure_encZ]; done) ?_ ?_ | refine AC.p0 (con30 ?_ ?_) ?_ (by simp -implicitDefEqProofs only [qU, pure_encZ]; done) ?_ ?_ | simp -implicitDefEqProofs only [F16, qA, ld_0, ld_pv, st_0, splice, doEqs, qU, List.reduceReplicate, Nat.reduceAdd, Nat.reduceSub, Nat.reduceLeDiff, Nat.reduceEqDiff, Nat.reduceMul, reduceIte, reduceCtorEq, qI, Nat.reduceLT, Nat.reduceBEq, up_s, Int.toNat_natCast, encT, qZ, qC, Int.natCast_zero, Int.reduceEq, Int.reduceNe, *]
    all_goals first
      | exact Wk.refl _
      | exact (few_bd (by assumption)).mono (by omega)
      | exact (bd_pPick (few_bd (by assumption))).mono (by omega)
      | (rw [decide_eq_true (by omega)]; exact Wk.refl _)
      | (refine Wk.of_eq ?_; simp; done)
      | (refine Wk.of_eq ?_; simp; omega)
      | trace_state
  · have hs := p_err he
    refine mcb_of_vc mix x16 (by simp [F16]) fun hw _ => ?_
    clear hw
    repeat' with_reducible first | refine gTn_of (fun h => ?_) (fun h => ?_) | refine gT_of (fun h => ?_) (fun h => ?_) | refine caseTn_of (fun h => ?_) (fun h => ?_) | refine caseT_of (fun h => ?_) (fun h => ?_) | refine FN ?_ ?_ ?_ ?_ rfl ?_ | refine kv_ifn ?_ ?_ | refine kv_if ?_ ?_ | refine k_if ?_ ?_ | refine IA ?_ ?_ ?_ | refine L1 ?_ ?_ | refine L2 ?_ ?_ | refine L3 ?_ ?_ ?_ ?_ | refine L4 ?_ ?_ | refine L5 ?_ ?_ ?_ ?_ ?_ | refine L6 ?_ ?_ ?_ ?_ ?_ | refine AC.p0 (con47 ) ?_ (by simp -implicitDefEqProofs only [qU, pure_encZ]; done) ?_ ?_ | refine AC.p0 (con22s ) ?_ (by simp -implicitDefEqProofs only [qU, pure_encZ]; done) ?_ ?_ | refine AC.p0 (con48s ?_) ?_ (by simp -implicitDefEqProofs only [qU, pure_encZ]; done) ?_ ?_ | refine AC.p0 (con32s ?_) ?_ (by simp -implicitDefEqProofs only [qU, pure_encZ]; done) ?_ ?_ | refine AC.p0 (con25s ?_) ?_ (by simp -implicitDefEqProofs only [qU, pure_encZ]; done) ?_ ?_ | refine AC.p0 (con30 ?_ ?_) ?_ (by simp -implicitDefEqProofs only [qU, pure_encZ]; done) ?_ ?_ | simp -implicitDefEqProofs only [F16, qA, ld_0, ld_pv, st_0, splice, doEqs, qU, List.reduceReplicate, Nat.reduceAdd, Nat.reduceSub, Nat.reduceLeDiff, Nat.reduceEqDiff, Nat.reduceMul, reduceIte, reduceCtorEq, qI, Nat.reduceLT, Nat.reduceBEq, up_s, Int.toNat_natCast, encT, qZ, qC, Int.natCast_zero, Int.reduceEq, Int.reduceNe, *]
    all_goals first
      | exact Wk.refl _
      | exact (few_bd (by assumption)).mono (by omega)
      | exact (bd_pPick (few_bd (by assumption))).mono (by omega)
      | (rw [decide_eq_true (by omega)]; exact Wk.refl _)
      | (refine Wk.of_eq ?_; simp; done)
      | (refine Wk.of_eq ?_; simp; omega)
      | trace_state

end Go.Sak
