/- Part U114 of the proofs about the program: Xf, Rq, Rp. Conditions: none. -/
import Derived.Test.YtahdilehajdhgaaGreatU113
import Derived.Test.YtahdilehajdhgaaGreatU111
namespace Go.Sak
open Go Go.RowKit
set_option linter.unusedVariables false
end Go.Sak
namespace Go.Sak
open Go Go.RowKit Go.Shelf Go.Proofs
attribute [local go_sem] Oper.semAt_some
set_option linter.unusedVariables false
set_option linter.unusedSimpArgs false
set_option maxRecDepth 100000
set_option maxHeartbeats 4000000






theorem Keeps.cell {w w':World} (h:Keeps w w') {a:Addr} {v:Value} (hc:w.cell? a=some v):w'.cell? a=some v:=(World.cell?_of_block (h.2.1 _ (lA hc))).trans hc
attribute [local go_sem] Oper.semAt_some
set_option linter.unusedVariables false
set_option linter.unusedSimpArgs false
set_option maxRecDepth 100000
set_option maxHeartbeats 4000000





theorem TW.keep {sb:Nat} {sa:Option Addr} {cap:Nat} {ts:List Thread} {W W':World} (h:TW sb sa cap ts W) (hk:∀ a v,W.cell? a=some v→(a.block=sb∨∃ ad,sa=some ad∧a.block=ad.block)→W'.cell? a=some v):TW sb sa cap ts W' :=
  ⟨hk _ _ h.1 (.inl rfl),fun i t hi=>by
    obtain ⟨ad,h1,h2⟩:=h.2 i t hi
    exact ⟨ad,h1,fun j v hj=>hk _ _ (h2 j v hj) (.inr ⟨ad,h1,bU _ _⟩)⟩⟩
end Go.Sak
