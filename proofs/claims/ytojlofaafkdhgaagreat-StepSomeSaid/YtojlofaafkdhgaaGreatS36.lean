/- Part S36 of the proofs about the program: K40. Conditions: none. -/
import Derived.Test.YtojlofaafkdhgaaGreatS30
import Derived.Test.YtojlofaafkdhgaaGreatS33
import Derived.Test.YtojlofaafkdhgaaGreatS22
import Derived.Test.YtojlofaafkdhgaaGreatS04
import Derived.Test.YtojlofaafkdhgaaGreatProg
import Derived.KernelRfl
namespace Go.Sak
open Go Go.RowKit Go.Proofs
set_option linter.unusedVariables false
set_option linter.unusedSimpArgs false
set_option maxRecDepth 10000
set_option maxHeartbeats 8000000
theorem con34s {s : State} {id kind val untl : Int} (h : Bd s 100000000) : Con Tryz.prog 34 [.agg (encZ s), .int .i64 id, .int .i64 kind, .int .i64 val, .int .i64 untl] (.tup [.agg (encZ (fabInvoke s id kind val untl).1), .int .i64 (fabInvoke s id kind val untl).2], [], []) := by
  obtain ⟨h1, h2, h3, h4, h5, h6, h7⟩ := h.all
  exact con34 h1 h2 h3 h4 h5 h6 h7
theorem ia_lit {f : Nat → Option Blk} {sz : Nat} {r : List AV} {rows : List (List AV)} : doIaddr f sz (.slv sz (r :: rows)) (.int .i64 0) = some { v := .pv r } := by
  simp [doIaddr]
end Go.Sak
