/- Part S41 of the proofs about the program: Xr, Pr. Conditions: none. -/
import Derived.Test.YtahdilehajdhgaaGreatS03
import Derived.Test.YtahdilehajdhgaaGreatS40
namespace Go.Sak
open Go Go.RowKit
set_option linter.unusedVariables false
set_option linter.unusedSimpArgs false

def setGot (t:Thread) (got:Int):Thread:=⟨t.st,t.kind,t.val,t.untl,t.pc,t.reg,t.seen,t.tries,t.late,t.res,got⟩

theorem tc_got {t:Thread} {x:Int} (h:tCheck t=true) (hr:t.st=1):tCheck (setGot t x)=true:=by
  simp only [tCheck,tKind,tTime,tPlace,setGot,within,Bool.and_eq_true,Bool.or_eq_true,decide_eq_true_eq] at *; grind
theorem Rn.got {s:State} {id x:Int} (h:Rn s id):Rn (put1 s id (setGot (me s id) x)) id:=h.put (tc_got h.tc h.run) h.run
end Go.Sak
