/- Part S42 of the proofs about the program: K42. Conditions: none. -/
import Derived.Test.YtojlofaafkdhgaaGreatS37
import Derived.Test.YtojlofaafkdhgaaGreatS40
import Derived.Test.YtojlofaafkdhgaaGreatS04
import Derived.Test.YtojlofaafkdhgaaGreatProg
import Derived.KernelRfl
namespace Go.Sak
open Go Go.RowKit Go.Proofs
set_option linter.unusedVariables false
set_option linter.unusedSimpArgs false
set_option maxRecDepth 10000
set_option maxHeartbeats 8000000
def F5 : AFn := ⟨73, (.seq (.reg [o1 3 (.box 33 0), o1 6 (.mv (.const (.bool false)))]) (.seq (.reg [o1 12 (.call 21 []), o1 7 (.mv 12)]) (.seq (.seq (.reg [o1 13 (.ld 20 true 3), o1 14 (.call 22 [13]), o1 15 (.not 14), o1 16 (.mv 15), o4 17 (.mv 2) 16, o4 18 (.bin .gtr 17 (ci 30)) 16, o1 19 (.pick 16 (.const (.bool true)) 18)]) (.cond 19 (.seq (.reg [o1 20 (.mv 7), o1 6 (.mv 20)]) .ret) .skip)) (.seq (.reg [o1 21 (.ld 20 true 3), o1 22 (.mv 1), o1 23 (.call 26 [21, 22]), o1 8 (.alloc 33 [(.int .i64 0), (.int .i64 0), (.int .i64 0), (.int .i64 0), (.int .i64 0), (.int .i64 0), (.bool false), (.int .i64 0), (.int .i64 0), (.int .i64 0), .slnil, .slnil, .slnil, (.int .i64 0), .slnil, (.int .i64 0), .slnil, (.int .i64 0), .slnil, .slnil]), o2 (.st 20 8 23)]) (.seq (.reg [o1 25 (.ld 20 true 3), o1 26 (.mv 1), o1 27 (.mv 2), o1 28 (.call 23 [25, 26, 27]), o1 24 (.mv 28), o1 29 (.ext 24 0), o1 30 (.ext 24 1), o1 9 (.alloc 33 [(.int .i64 0), (.int .i64 0), (.int .i64 0), (.int .i64 0), (.int .i64 0), (.int .i64 0), (.bool false), (.int .i64 0), (.int .i64 0), (.int .i64 0), .slnil, .slnil, .slnil, (.int .i64 0), .slnil, (.int .i64 0), .slnil, (.int .i64 0), .slnil, .slnil]), o2 (.st 20 9 29), o1 10 (.mv 30)]) (.seq (.reg [o1 31 (.ld 20 true 3), o1 32 (.call 32 [31]), o1 11 (.mv 32)]) (.seq (.reg [o1 33 (.mv 7), o1 34 (.mv 33), o3 35 (.ld 20 true 8) 34, o3 36 (.call 32 [35]) 34, o3 37 (.mv 11) 34, o3 38 (.eqb false 36 37) 34, o1 39 (.pick 34 38 (.const (.bool false))), o1 40 (.mv 39), o3 41 (.ld 20 true 9) 40, o3 42 (.call 32 [41]) 40, o3 43 (.mv 11) 40, o3 44 (.eqb false 42 43) 40, o1 45 (.pick 40 44 (.const (.bool false))), o1 46 (.mv 45), o3 47 (.mv 10) 46, o3 48 (.bin .geq 47 (ci 0)) 46, o1 49 (.pick 46 48 (.const (.bool false))), o1 50 (.mv 49), o3 51 (.mv 10) 50, o3 52 (.mv 2) 50, o3 53 (.mx 52 (ci 0)) 50, o3 54 (.bin .leq 51 53) 50, o1 55 (.pick 50 54 (.const (.bool false))), o1 56 (.mv 55), o3 57 (.mv 10) 56, o3 58 (.bin .gtr 57 (ci 0)) 56, o3 59 (.mv 58) 56, o4 60 (.ld 20 true 9) 59, o4 61 (.ld 20 true 3) 59, o4 62 (.call 25 [60, 61]) 59, o3 63 (.pick 59 (.const (.bool true)) 62) 56, o1 64 (.pick 56 63 (.const (.bool false))), o1 65 (.mv 64), o3 66 (.mv 11) 65, o3 67 (.mv 66) 65, o4 68 (.ld 20 true 8) 67, o4 69 (.ld 20 true 3) 67, o4 70 (.call 25 [68, 69]) 67, o3 71 (.pick 67 (.const (.bool true)) 70) 65, o1 72 (.pick 65 71 (.const (.bool false))), o1 6 (.mv 72)]) .ret))))))), [(6, none)]⟩
theorem x5 : xf Tryz.prog 5 = some F5 := by kernel_rfl
theorem con32s {s : State} (h : Bd s 100000000) : Con Tryz.prog 32 [.agg (encZ s)] (.bool (fabCheck s), [], []) := by
  obtain ⟨h1, h2, h3, h4, h5, h6, h7⟩ := h.all
  exact con32 h1 h2 h3 h4 h5 h6 h7
end Go.Sak
