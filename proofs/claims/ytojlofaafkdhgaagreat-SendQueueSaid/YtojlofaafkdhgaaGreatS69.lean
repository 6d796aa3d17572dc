/- Part S69 of the proofs about the program: K70. Conditions: none. -/
import Derived.Test.YtojlofaafkdhgaaGreatS68
import Derived.Test.YtojlofaafkdhgaaGreatS46
import Derived.Test.YtojlofaafkdhgaaGreatS04
import Derived.Test.YtojlofaafkdhgaaGreatProg
import Derived.KernelRfl
namespace Go.Sak
open Go Go.RowKit Go.Proofs
set_option linter.unusedVariables false
set_option linter.unusedSimpArgs false
set_option maxRecDepth 10000
set_option maxHeartbeats 8000000
def F38 : AFn := ⟨59, (.seq (.reg [o1 2 (.box 54 0), o1 3 (.box 61 1), o1 4 (.alloc 54 [.slnil, (.int .i64 0), (.int .i64 0), (.int .i64 0)]), o1 5 (.mv (.const (.bool false)))]) (.seq (.reg [o1 15 (.mkmap), o2 (.mupd 15 (ci 9) (.func 106)), o2 (.mupd 15 (ci 7) (.func 107)), o2 (.mupd 15 (ci 8) (.func 108)), o1 16 (.mv 15), o1 6 (.mv 16)]) (.seq (.seq (.reg [o1 17 (.bslice 3 1 3 [(ci 1), (ci 2), (ci 3)]), o1 18 (.len 17), o1 19 (.mv (ci 0))]) (.block 0 (.loop (.seq (.reg [o1 20 (.bin .lss 19 18)]) (.seq (.cond 20 .skip (.exit 0)) (.seq (.block 1 (.seq (.reg [o1 21 (.iaddr 1 17 19), o1 22 (.ld 1 false 21), o1 8 (.mv 22)]) (.reg [o1 23 (.mv 6), o1 24 (.mv 8), o2 (.mupd 23 24 (.func 109))]))) (.reg [o1 25 (.bin .add 19 (ci 1)), o1 19 (.mv 25)]))))))) (.seq (.seq (.reg [o1 26 (.bslice 3 1 3 [(ci 4), (ci 5), (ci 6)]), o1 27 (.len 26), o1 28 (.mv (ci 0))]) (.block 2 (.loop (.seq (.reg [o1 29 (.bin .lss 28 27)]) (.seq (.cond 29 .skip (.exit 2)) (.seq (.block 3 (.seq (.reg [o1 30 (.iaddr 1 26 28), o1 31 (.ld 1 false 30), o1 10 (.mv 31)]) (.reg [o1 32 (.mv 6), o1 33 (.mv 10), o2 (.mupd 32 33 (.func 110))]))) (.reg [o1 34 (.bin .add 28 (ci 1)), o1 28 (.mv 34)]))))))) (.seq (.reg [o1 36 (.mv 6), o1 37 (.faddr 1 3), o1 38 (.ld 1 false 37), o1 39 (.lkp .fnnil true 36 38), o1 35 (.mv 39), o1 40 (.ext 35 0), o1 41 (.ext 35 1), o1 11 (.mv 40), o1 12 (.mv 41)]) (.seq (.seq (.reg [o1 42 (.mv 12), o1 43 (.not 42)]) (.cond 43 (.seq (.reg [o1 44 (.ld 4 true 2), o1 45 (.call 111 [44]), o2 (.st 4 4 45), o1 5 (.mv (.const (.bool false)))]) .ret) .skip)) (.seq (.reg [o1 47 (.mv 11), o1 48 (.ld 4 true 2), o1 49 (.ld 5 true 3), o1 50 (.callv 47 [48, 49]), o1 46 (.mv 50), o1 51 (.ext 46 0), o1 52 (.ext 46 1), o1 13 (.alloc 117 [.slnil, (.int .i64 0), (.int .i64 0), (.int .i64 0)]), o2 (.st 4 13 51), o1 14 (.mv 52)]) (.seq (.seq (.reg [o1 53 (.mv 14), o1 54 (.not 53)]) (.cond 54 (.seq (.reg [o1 55 (.ld 4 true 2), o1 56 (.call 111 [55]), o2 (.st 4 4 56), o1 5 (.mv (.const (.bool false)))]) .ret) .skip)) (.seq (.reg [o1 57 (.ld 4 true 13), o1 58 (.call 111 [57]), o2 (.st 4 4 58), o1 5 (.mv (.const (.bool true)))]) .ret))))))))), [(4, some (4, true)), (5, none)]⟩
theorem x38 : xf Tryz.prog 38 = some F38 := by kernel_rfl
theorem con111q {q : Queue} (h : q.vals.length ≤ 100000000) : Con Tryz.prog 111 [.agg (encQ q)] (.agg (encQ q), [], []) := con111 h
theorem c3 : ((3 : Nat) : Int) = 3 := rfl
theorem ld_1 (f : Nat → Option Blk) (n : Nat) (ag : Bool) (g o : Nat) : doLd f n ag (.ptr g 1 o) = (match f g with | some (.rows _ _ (_ :: r :: _)) => (part o n ag r).map fun v => { v := v, rd := [g] } | _ => none) := by
  simp only [doLd]
  cases f g with
  | none => rfl
  | some B =>
    cases B with
    | rows t sz rs =>
      cases rs with
      | nil => rfl
      | cons a rs => cases rs <;> rfl
    | _ => rfl
theorem ld_2 (f : Nat → Option Blk) (n : Nat) (ag : Bool) (g o : Nat) : doLd f n ag (.ptr g 2 o) = (match f g with | some (.rows _ _ (_ :: _ :: r :: _)) => (part o n ag r).map fun v => { v := v, rd := [g] } | _ => none) := by
  simp only [doLd]
  cases f g with
  | none => rfl
  | some B =>
    cases B with
    | rows t sz rs =>
      cases rs with
      | nil => rfl
      | cons a rs =>
        cases rs with
        | nil => rfl
        | cons b rs => cases rs <;> rfl
    | _ => rfl
end Go.Sak
