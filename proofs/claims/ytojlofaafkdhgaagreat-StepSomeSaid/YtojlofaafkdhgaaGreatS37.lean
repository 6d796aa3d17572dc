/- Part S37 of the proofs about the program: K41. Conditions: none. -/
import Derived.Test.YtojlofaafkdhgaaGreatS36
import Derived.Test.YtojlofaafkdhgaaGreatS04
import Derived.Test.YtojlofaafkdhgaaGreatProg
import Derived.KernelRfl
namespace Go.Sak
open Go Go.RowKit Go.Proofs
set_option linter.unusedVariables false
set_option linter.unusedSimpArgs false
set_option maxRecDepth 10000
set_option maxHeartbeats 8000000
def F8 : AFn := ⟨65, (.seq (.reg [o1 4 (.box 33 0), o1 8 (.mv (.const (.bool false)))]) (.seq (.reg [o1 18 (.call 21 []), o1 9 (.mv 18)]) (.seq (.seq (.reg [o1 19 (.ld 20 true 4), o1 20 (.call 22 [19]), o1 21 (.not 20)]) (.cond 21 (.seq (.reg [o1 22 (.mv 9), o1 8 (.mv 22)]) .ret) .skip)) (.seq (.reg [o1 23 (.mv 2), o1 24 (.bin .rem 23 (.const (.int .u8 16))), o1 25 (.conv .i64 24), o1 10 (.mv 25)]) (.seq (.reg [o1 26 (.mv 3), o1 27 (.bin .rem 26 (.const (.int .u8 16))), o1 28 (.conv .i64 27), o1 11 (.mv 28)]) (.seq (.reg [o1 30 (.ld 20 true 4), o1 31 (.mv 1), o1 32 (.mv 10), o1 33 (.mv 11), o1 34 (.bin .add 32 33), o1 35 (.call 23 [30, 31, 34]), o1 29 (.mv 35), o1 36 (.ext 29 0), o1 37 (.ext 29 1), o1 12 (.alloc 33 [(.int .i64 0), (.int .i64 0), (.int .i64 0), (.int .i64 0), (.int .i64 0), (.int .i64 0), (.bool false), (.int .i64 0), (.int .i64 0), (.int .i64 0), .slnil, .slnil, .slnil, (.int .i64 0), .slnil, (.int .i64 0), .slnil, (.int .i64 0), .slnil, .slnil]), o2 (.st 20 12 36), o1 13 (.mv 37)]) (.seq (.reg [o1 39 (.ld 20 true 4), o1 40 (.mv 1), o1 41 (.mv 10), o1 42 (.call 23 [39, 40, 41]), o1 38 (.mv 42), o1 43 (.ext 38 0), o1 44 (.ext 38 1), o1 14 (.alloc 33 [(.int .i64 0), (.int .i64 0), (.int .i64 0), (.int .i64 0), (.int .i64 0), (.int .i64 0), (.bool false), (.int .i64 0), (.int .i64 0), (.int .i64 0), .slnil, .slnil, .slnil, (.int .i64 0), .slnil, (.int .i64 0), .slnil, (.int .i64 0), .slnil, .slnil]), o2 (.st 20 14 43), o1 15 (.mv 44)]) (.seq (.reg [o1 46 (.ld 20 true 14), o1 47 (.mv 1), o1 48 (.mv 11), o1 49 (.call 23 [46, 47, 48]), o1 45 (.mv 49), o1 50 (.ext 45 0), o1 51 (.ext 45 1), o1 16 (.alloc 33 [(.int .i64 0), (.int .i64 0), (.int .i64 0), (.int .i64 0), (.int .i64 0), (.int .i64 0), (.bool false), (.int .i64 0), (.int .i64 0), (.int .i64 0), .slnil, .slnil, .slnil, (.int .i64 0), .slnil, (.int .i64 0), .slnil, (.int .i64 0), .slnil, .slnil]), o2 (.st 20 16 50), o1 17 (.mv 51)]) (.seq (.reg [o1 52 (.mv 9), o1 53 (.mv 52), o3 54 (.ld 20 true 12) 53, o3 55 (.ld 20 true 16) 53, o3 56 (.call 25 [54, 55]) 53, o1 57 (.pick 53 56 (.const (.bool false))), o1 58 (.mv 57), o3 59 (.mv 13) 58, o3 60 (.mv 15) 58, o3 61 (.mv 17) 58, o3 62 (.bin .add 60 61) 58, o3 63 (.bin .eql 59 62) 58, o1 64 (.pick 58 63 (.const (.bool false))), o1 8 (.mv 64)]) .ret))))))))), [(8, none)]⟩
theorem x8 : xf Tryz.prog 8 = some F8 := by kernel_rfl
theorem con22s {s : State} : Con Tryz.prog 22 [.agg (encZ s)] (.bool (few s), [], []) := con22
theorem con25s {s u : State} (h : Bd s 100000000) : Con Tryz.prog 25 [.agg (encZ s), .agg (encZ u)] (.bool (decide (s = u)), [], []) := by
  obtain ⟨h1, h2, h3, h4, h5, h6, h7⟩ := h.all
  exact con25 h1 h2 h3 h4 h5 h6 h7
theorem few_bd {s : State} (h : few s = true) : Bd s 200 := by
  simp only [few, Bool.and_eq_true, decide_eq_true_eq] at h
  unfold Bd; omega
end Go.Sak
