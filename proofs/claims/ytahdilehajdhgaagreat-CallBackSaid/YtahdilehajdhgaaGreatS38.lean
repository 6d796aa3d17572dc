/- Part S38 of the proofs about the program: Xs, Ps. Conditions: none. -/
import Derived.Test.YtahdilehajdhgaaGreatS41
namespace Go.Sak
open Go Go.RowKit
set_option linter.unusedVariables false
set_option linter.unusedSimpArgs false


def Wok (s a:State) (id:Int):Prop:=a.threads.length=s.threads.length∧∀ i:Nat,(i:Int)≠id→a.threads.getD i default=s.threads.getD i default∨((s.threads.getD i default).st=2∧a.threads.getD i default=run1 (s.threads.getD i default))
theorem Wok.trans {a b c:State} {id:Int} (h:Wok a b id) (k:Wok b c id):Wok a c id:=by
  refine ⟨k.1.trans h.1,fun i hi=>?_⟩
  rcases h.2 i hi with h1 | ⟨h1,h2⟩ <;> rcases k.2 i hi with k1 | ⟨k1,k2⟩
  · exact .inl (k1.trans h1)
  · rw [h1] at k1 k2; exact .inr ⟨k1,k2⟩
  · exact .inr ⟨h1,k1.trans h2⟩
  · rw [h2] at k1; cases k1
end Go.Sak
