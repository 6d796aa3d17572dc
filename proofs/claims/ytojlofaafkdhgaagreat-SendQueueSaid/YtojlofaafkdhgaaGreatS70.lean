/- Part S70 of the proofs about the program: K71, K72. Conditions: none. -/
import Derived.Test.YtojlofaafkdhgaaGreatS69
import Derived.Test.YtojlofaafkdhgaaGreatS67
import Derived.Test.YtojlofaafkdhgaaGreatS04
import Derived.Test.YtojlofaafkdhgaaGreatProg
import Derived.KernelRfl
import Derived.Test.YtojlofaafkdhgaaGreatS60
namespace Go.Sak
open Go Go.RowKit Go.Proofs
set_option linter.unusedVariables false
set_option linter.unusedSimpArgs false
set_option maxRecDepth 10000
set_option maxHeartbeats 8000000
def F36 : AFn := ⟨33, (.seq (.reg [o1 2 (.box 54 0), o1 3 (.box 54 1), o1 4 (.mv (.const (.bool false)))]) (.seq (.reg [o1 6 (.faddr 0 2), o1 7 (.ld 1 false 6), o1 8 (.faddr 0 3), o1 9 (.ld 1 false 8), o1 10 (.call 52 [7, 9]), o1 5 (.mv 10)]) (.seq (.reg [o1 11 (.mv 5), o1 12 (.mv 11), o3 13 (.faddr 1 2) 12, o3 14 (.ld 1 false 13) 12, o3 15 (.faddr 1 3) 12, o3 16 (.ld 1 false 15) 12, o3 17 (.bin .eql 14 16) 12, o1 18 (.pick 12 17 (.const (.bool false))), o1 19 (.mv 18), o3 20 (.faddr 2 2) 19, o3 21 (.ld 1 false 20) 19, o3 22 (.faddr 2 3) 19, o3 23 (.ld 1 false 22) 19, o3 24 (.bin .eql 21 23) 19, o1 25 (.pick 19 24 (.const (.bool false))), o1 26 (.mv 25), o3 27 (.faddr 3 2) 26, o3 28 (.ld 1 false 27) 26, o3 29 (.faddr 3 3) 26, o3 30 (.ld 1 false 29) 26, o3 31 (.bin .eql 28 30) 26, o1 32 (.pick 26 31 (.const (.bool false))), o1 4 (.mv 32)]) .ret))), [(4, none)]⟩
theorem x36 : xf Tryz.prog 36 = some F36 := by kernel_rfl
def qSame (a b : Queue) : Bool := decide (a.vals = b.vals) && decide (a.cap = b.cap) && decide (a.pol = b.pol) && decide (a.mode = b.mode)
theorem qSame_self (q : Queue) : qSame q q = true := by simp [qSame]
theorem fq_len {s : State} : (fabQueue s).vals.length ≤ 64 := by
  by_cases h : fabCheck s = true
  · rw [fabQueue_t h]; have := fab_word h; simp only [qVals_len]; omega
  · unfold fabQueue; rw [if_pos h]; simp
theorem con36q {a b : Queue} (ha : a.vals.length ≤ 1000) (hb : b.vals.length ≤ 1000) : Con Tryz.prog 36 [.agg (encQ a), .agg (encQ b)] (.bool (qSame a b), [], []) := by
  refine mcb_of_vc mix x36 (by simp [F36]) fun hw _ => ?_
  clear hw
  repeat' with_reducible first | refine gTn_of (fun h => ?_) (fun h => ?_) | refine gT_of (fun h => ?_) (fun h => ?_) | refine caseTn_of (fun h => ?_) (fun h => ?_) | refine caseT_of (fun h => ?_) (fun h => ?_) | refine FN ?_ ?_ ?_ ?_ rfl ?_ | refine kv_ifn ?_ ?_ | refine kv_if ?_ ?_ | refine k_if ?_ ?_ | refine IA ?_ ?_ ?_ | refine L1 ?_ ?_ | refine L2 ?_ ?_ | refine L3 ?_ ?_ ?_ ?_ | refine L4 ?_ ?_ | refine L5 ?_ ?_ ?_ ?_ ?_ | refine L6 ?_ ?_ ?_ ?_ ?_ | refine ACV.of (con52 ?_) ?_ ?_ ?_ | refine AC.p0 (con52 ?_) ?_ (by simp -implicitDefEqProofs only [qU, pure_encZ]; done) ?_ ?_ | simp -implicitDefEqProofs only [F36, qA, ld_0, ld_pv, st_0, splice, doEqs, qU, List.reduceReplicate, Nat.reduceAdd, Nat.reduceSub, Nat.reduceLeDiff, Nat.reduceEqDiff, Nat.reduceMul, reduceIte, reduceCtorEq, qI, Nat.reduceLT, Nat.reduceBEq, up_s, Int.toNat_natCast, encT, qZ, encQ, *]
  all_goals first
    | omega
    | (refine Wk.of_eq ?_; simp only [qSame] at *; grind)
    | (refine Wk.of_eq ?_; simp only [qSame]; simp [*]; done)
    | trace_state

end Go.Sak
namespace Go.Sak
open Go Go.RowKit Go.Proofs
set_option linter.unusedVariables false
set_option linter.unusedSimpArgs false
set_option maxRecDepth 10000
set_option maxHeartbeats 8000000
set_option linter.defProp false
end Go.Sak
