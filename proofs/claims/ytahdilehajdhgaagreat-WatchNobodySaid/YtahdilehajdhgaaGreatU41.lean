/- Part U41 of the proofs about the program: Xr, Pr, Xs, Ps. Conditions: none. -/
import Derived.Test.YtahdilehajdhgaaGreatU40
namespace Go.Sak
open Go Go.RowKit
set_option linter.unusedVariables false
set_option linter.unusedSimpArgs false

def rT (t:Thread) (got:Int):Thread:=⟨t.st,t.kind,t.val,t.untl,t.pc,t.reg,t.seen,t.tries,t.late,t.res,got⟩

theorem Cr {t:Thread} {x:Int} (h:bK t=true) (hr:t.st=1):bK (rT t x)=true:=by
  simp only [bK,lG,lH,gL,rT,aS,Bool.and_eq_true,Bool.or_eq_true,decide_eq_true_eq] at *; grind
theorem Rn.got {s:State} {id x:Int} (h:Rn s id):Rn (iV s id (rT (me s id) x)) id:=h.put (Cr h.tc h.run) h.run


def Wok (s a:State) (id:Int):Prop:=a.threads.length=s.threads.length∧∀ i:Nat,(i:Int)≠id→a.threads.getD i default=s.threads.getD i default∨((s.threads.getD i default).st=2∧a.threads.getD i default=Ip (s.threads.getD i default))
theorem Wok.trans {a b c:State} {id:Int} (h:Wok a b id) (k:Wok b c id):Wok a c id:=by
  refine ⟨k.1.trans h.1,fun i hi=>?_⟩
  rcases h.2 i hi with h1 | ⟨h1,h2⟩ <;> rcases k.2 i hi with k1 | ⟨k1,k2⟩
  · exact .inl (k1.trans h1)
  · rw [h1] at k1 k2; exact .inr ⟨k1,k2⟩
  · exact .inr ⟨h1,k1.trans h2⟩
  · rw [h2] at k1; cases k1
end Go.Sak
