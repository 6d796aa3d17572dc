/- Part U106 of the proofs about the program: Rh. Conditions: none. -/
import Derived.Test.YtahdilehajdhgaaGreatU101
import Derived.Test.YtahdilehajdhgaaGreatU10
import Derived.Test.YtahdilehajdhgaaGreatU100
import Derived.Test.YtahdilehajdhgaaGreatU47
import Derived.Maps.RangeRun
import Derived.Deep.LoopGhost
namespace Go.Sak
open Go Go.RowKit Go.Proofs Go.ChangeMaps
set_option linter.unusedVariables false
set_option linter.unusedSimpArgs false
set_option maxRecDepth 100000
set_option maxHeartbeats 4000000
def pm (l:List Due):AM:=[(2,.rows 169 1 [[.slm 3 l.length]]),(3,.rows 51 2 (l.map zV))]
theorem lA {w:World} {a:Addr} {v:Value} (h:w.cell? a=some v):a.block<w.heap.size:=by
  unfold World.cell? at h
  cases hh:w.heap[a.block]? with
  | none=>rw [hh] at h; cases h
  | some o=>exact (Array.getElem?_eq_some_iff.1 hh).1
end Go.Sak
