/- Part U116 of the proofs about the program: Rn. Conditions: none. -/
import Derived.Test.YtahdilehajdhgaaGreatU114
namespace Go.Sak
open Go Go.RowKit Go.Shelf Go.Proofs
attribute [local go_sem] Oper.semAt_some
set_option linter.unusedVariables false
set_option linter.unusedSimpArgs false
set_option maxRecDepth 100000
set_option maxHeartbeats 4000000







end Go.Sak
