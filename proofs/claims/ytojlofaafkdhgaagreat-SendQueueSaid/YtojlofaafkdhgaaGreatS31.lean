/- Part S31 of the proofs about the program: K31. Conditions: none. -/
import Derived.Test.YtojlofaafkdhgaaGreatS13
import Derived.Test.YtojlofaafkdhgaaGreatS03
import Derived.Test.YtojlofaafkdhgaaGreatS04
import Derived.Test.YtojlofaafkdhgaaGreatProg
import Derived.KernelRfl
namespace Go.Sak
open Go Go.RowKit Go.Proofs
set_option linter.unusedVariables false
set_option linter.unusedSimpArgs false
set_option maxRecDepth 10000
set_option maxHeartbeats 8000000
theorem lists_f {α : Type} [DecidableEq α] [Inhabited α] {a b : List α} {i : Nat} (hi : i < a.length) (h : ¬ a.getD i default = b.getD i default) : decide (a = b) = false := by
  simp; intro e; subst e; exact h rfl
theorem lists_n {α : Type} [DecidableEq α] {a b : List α} (h : ¬ (a.length : Int) = (b.length : Int)) : decide (a = b) = false := by
  simp; intro e; subst e; exact h rfl
theorem lists_t {α : Type} [DecidableEq α] [Inhabited α] {a b : List α} {i : Nat} (hi : ¬ (i : Int) < (a.length : Int)) (hl : a.length = b.length) (h : ∀ j, j < i → a.getD j default = b.getD j default) : decide (a = b) = true := by
  simp
  refine List.ext_getElem hl fun j h1 h2 => ?_
  have := h j (by omega)
  simpa [List.getD_eq_getElem?_getD, h1, h2] using this
theorem lists_s {α : Type} [Inhabited α] {a b : List α} {i : Nat} (h0 : ∀ j, j < i → a.getD j default = b.getD j default) (h : a.getD i default = b.getD i default) : ∀ j, j < i + 1 → a.getD j default = b.getD j default := fun j hj => by
  by_cases e : j = i
  · subst e; exact h
  · exact h0 j (by omega)
def F52 : AFn := ⟨26, (.seq (.reg [o1 4 (.mv (.const (.bool false)))]) (.seq (.seq (.reg [o1 6 (.mv 0), o1 7 (.len 6), o1 8 (.mv 1), o1 9 (.len 8), o1 10 (.bin .neq 7 9)]) (.cond 10 (.seq (.reg [o1 4 (.mv (.const (.bool false)))]) .ret) .skip)) (.seq (.seq (.reg [o1 5 (.mv (ci 0))]) (.block 0 (.loop (.seq (.seq (.reg [o1 11 (.mv 5), o1 12 (.mv 0), o1 13 (.len 12), o1 14 (.bin .lss 11 13)]) (.cond 14 .skip (.exit 0))) (.seq (.block 1 (.seq (.regT [o1 17 (.mv 0), o1 18 (.mv 5), o1 19 (.iaddr 1 17 18), o1 20 (.ld 1 false 19), o1 21 (.mv 1), o1 22 (.mv 5), o1 23 (.iaddr 1 21 22), o1 24 (.ld 1 false 23), o1 25 (.bin .neq 20 24)] [(2, 6), (3, 6), (2, 7), (3, 7)]) (.cond 25 (.seq (.reg [o1 4 (.mv (.const (.bool false)))]) .ret) .skip))) (.reg [o1 15 (.mv 5), o1 16 (.bin .add 15 (ci 1)), o1 5 (.mv 16)])))))) (.seq (.reg [o1 4 (.mv (.const (.bool true)))]) .ret)))), [(4, none)]⟩
theorem x52 : xf Tryz.prog 52 = some F52 := by kernel_rfl
theorem con52 {a b : List Int} (ha : a.length ≤ 1000000000) : Con Tryz.prog 52 [.slv 1 (a.map encI), .slv 1 (b.map encI)] (.bool (decide (a = b)), [], []) := by
  cases hL : decide ((a.length : Int) = (b.length : Int)) with
  | false =>
    refine mcb_of_vc mix x52 (by simp [F52]) fun hw _ => ?_
    repeat' with_reducible first | refine gTn_of (fun h => ?_) (fun h => ?_) | refine gT_of (fun h => ?_) (fun h => ?_) | refine caseTn_of (fun h => ?_) (fun h => ?_) | refine caseT_of (fun h => ?_) (fun h => ?_) | refine fin_pure ?_ ?_ ?_ ?_ | refine kv_ifn ?_ ?_ | refine kv_if ?_ ?_ | refine k_if ?_ ?_ | simp -implicitDefEqProofs only [F52, qA, doLd, doSt, splice, qU, List.reduceReplicate, Nat.reduceAdd, Nat.reduceSub, Nat.reduceLeDiff, Nat.reduceEqDiff, Nat.reduceMul, reduceIte, reduceCtorEq, encI, Int.toNat_natCast, Int.natCast_zero, hL, *]
    all_goals first
      | (simp; done)
      | exact congrArg AV.bool (lists_n (by simpa using hL)).symm
      | (simpa using lists_n (by simpa using hL))
      | trace_state
  | true =>
    have hl : a.length = b.length := by simp at hL; omega
    refine mcb_of_vc mix x52 (by simp [F52]) fun hw _ => ?_
    simp -implicitDefEqProofs only [F52, qA, doLd, doSt, splice, qU, List.reduceReplicate, Nat.reduceAdd, Nat.reduceSub, Nat.reduceLeDiff, Nat.reduceEqDiff, Nat.reduceMul, reduceIte, reduceCtorEq, hL, encI, Int.toNat_natCast, Int.natCast_zero]
    refine ls_of (fun i : Nat => [some (.slv 1 (a.map encI)), some (.slv 1 (b.map encI)), none, none, some (.bool false), some (.int .i64 i), none, none, none, none, none, none, none, none, none, none, none, none, none, none, none, none, none, none, none, none]) (fun i => i ≤ a.length ∧ ∀ j, j < i → a.getD j default = b.getD j default) (fun i => a.length - i) 0 ?_ ?_ ?_ ?_ ?_
    rotate_right
    · intro i hJ
      simp only [all_some, all_none, all_nil]
      intros
      repeat' with_reducible first | refine gTn_of (fun h => ?_) (fun h => ?_) | refine gT_of (fun h => ?_) (fun h => ?_) | refine caseTn_of (fun h => ?_) (fun h => ?_) | refine caseT_of (fun h => ?_) (fun h => ?_) | refine fin_pure ?_ ?_ ?_ ?_ | refine kv_ifn ?_ ?_ | refine kv_if ?_ ?_ | refine k_if ?_ ?_ | refine ia_of (d := default) ?_ ?_ | refine rs_of (i + 1) ?_ ?_ ?_ ?_ ?_ | simp -implicitDefEqProofs only [F52, qA, doLd, doSt, splice, qU, List.reduceReplicate, Nat.reduceAdd, Nat.reduceSub, Nat.reduceLeDiff, Nat.reduceEqDiff, Nat.reduceMul, reduceIte, reduceCtorEq, encI, Int.toNat_natCast, Int.natCast_zero, hL, *]
      all_goals first
        | (simp; done)
        | (refine congrArg AV.bool (lists_f (i := i) ?_ ?_).symm <;> grind)
        | (refine congrArg AV.bool (lists_t (i := i) ?_ ?_ ?_).symm <;> grind)
        | exact lists_t (i := i) (by simp only [decide_eq_false_iff_not] at h; omega) hl hJ.2
        | (refine ⟨by grind, lists_s ?_ ?_⟩ <;> grind)
        | grind [inR_i64, wrap64, maxLen_eq]
        | trace_state
    all_goals first
      | (simp; done)
      | (simp -implicitDefEqProofs only [F52, qA, doLd, doSt, splice, qU, List.reduceReplicate, Nat.reduceAdd, Nat.reduceSub, Nat.reduceLeDiff, Nat.reduceEqDiff, Nat.reduceMul, reduceIte, reduceCtorEq, hL, encI, Int.toNat_natCast, Int.natCast_zero]; done)
      | trace_state

end Go.Sak
