/- Part U112 of the proofs about the program: Ri, Rj, Rk. Conditions: none. -/
import Derived.Test.YtahdilehajdhgaaGreatU14
import Derived.Test.YtahdilehajdhgaaGreatU106
namespace Go.Sak
open Go Go.RowKit Go.Shelf Go.Proofs
attribute [local go_sem] Oper.semAt_some
set_option linter.unusedVariables false
set_option linter.unusedSimpArgs false
set_option maxRecDepth 100000
set_option maxHeartbeats 4000000

section
variable {n:Nat} {P:Program}
end
attribute [local go_sem] Oper.semAt_some
set_option linter.unusedVariables false
set_option linter.unusedSimpArgs false
set_option maxRecDepth 100000
set_option maxHeartbeats 4000000
def Yd (t:Thread):Array Value:=#[.int .i64 t.st,.int .i64 t.kind,.int .i64 t.val,.int .i64 t.untl,.int .i64 t.pc,.int .i64 t.reg,.int .i64 t.seen,.int .i64 t.tries,.bool t.late,.int .i64 t.res,.int .i64 t.got]
def TW (sb:Nat) (sa:Option Addr) (cap:Nat) (ts:List Thread) (W:World):Prop:=W.cell? ⟨sb,18,none⟩=some (.slice sa ts.length cap)∧∀ i t,ts[i]?=some t→∃ ad,sa=some ad∧∀ j v,(Yd t)[j]?=some v→W.cell? (ad.add (i * 11+j))=some v
attribute [local go_sem] Oper.semAt_some
set_option linter.unusedVariables false
set_option linter.unusedSimpArgs false
set_option maxRecDepth 100000
set_option maxHeartbeats 4000000

end Go.Sak
