/- Part S37 of the proofs about the program: K41. Conditions: none. -/
import Derived.Test.YtccdhjhffebpoaaGreatS36
import Derived.Test.YtccdhjhffebpoaaGreatProg
import Derived.KernelRfl
namespace Go.Sak
open Go Go.RowKit Go.Proofs
set_option linter.unusedVariables false
set_option linter.unusedSimpArgs false
set_option maxRecDepth 10000
set_option maxHeartbeats 8000000
theorem con16s {s:State}:Con Tryz.prog 16 [.agg (encZ s)] (.bool (few s),[],[]):=con16
theorem con19s {s u:State} (h:Bd s 100000000):Con Tryz.prog 19 [.agg (encZ s),.agg (encZ u)] (.bool (decide (s=u)),[],[]):=by
  obtain ⟨h1,h2,h3,h4,h5,h6,h7⟩:=h.all
  exact con19 h1 h2 h3 h4 h5 h6 h7
theorem few_bd {s:State} (h:few s=true):Bd s 200:=by
  simp only [few,Bool.and_eq_true,decide_eq_true_eq] at h
  unfold Bd; omega
theorem bd_sSteps {s:State} {id n:Int} {k:Nat} (h:Bd s k):Bd (sSteps s id n).1 (k+1000):=(bd_sRun s id (min n 1000).toNat k h).mono (by omega)
end Go.Sak
