/- Part S62 of the proofs about the program: Px. Conditions: none. -/
import Derived.Test.YtojlofaafkdhgaaGreatS41
namespace Go.Sak
open Go Go.RowKit
set_option linter.unusedVariables false
set_option linter.unusedSimpArgs false

theorem gIs_iff {s : State} {id : Int} : gIs s id = true ↔ Rn s id ∧ opSide (me s id).kind = 2 := by
  simp only [gIs, Bool.and_eq_true, decide_eq_true_eq]
  constructor
  · rintro ⟨⟨h1, h2⟩, h3⟩; exact ⟨rn_of h1 h2, h3⟩
  · rintro ⟨h1, h3⟩; exact ⟨⟨h1.is, by unfold tRuns; rw [h1.run]; rfl⟩, h3⟩
end Go.Sak
