/- Part U111 of the proofs about the program: Xb, K220, K223. Conditions: none. -/
import Derived.Test.YtahdilehajdhgaaGreatU32
import Derived.Test.YtahdilehajdhgaaGreatU100
namespace Go.Sak
open Go Go.RowKit
def Bd (s:State) (k:Nat):Prop:=s.slots.length≤k∧s.sends.length≤k∧s.recvs.length≤k∧s.full.ln.length≤k∧s.empty.ln.length≤k∧s.threads.length≤k∧s.log.length≤k
theorem Bd.mono {s:State} {k n:Nat} (h:Bd s k) (hk:k≤n):Bd s n:=by unfold Bd at *; omega
theorem Bd.all {s:State} {k:Nat} (h:Bd s k):s.slots.length≤k∧s.sends.length≤k∧s.recvs.length≤k∧s.full.ln.length≤k∧s.empty.ln.length≤k∧s.threads.length≤k∧s.log.length≤k:=h
end Go.Sak
namespace Go.Sak
open Go Go.RowKit Go.Proofs
set_option linter.unusedVariables false
set_option linter.unusedSimpArgs false
set_option maxRecDepth 10000
set_option maxHeartbeats 8000000
theorem lW {s:State}:bO Tryz.prog 15 [.agg (bQ s)] (.bool (Dg s),[],[]):=Ho
theorem wI {s:State} (h:Dg s=true):Bd s 200:=by
  simp only [Dg,Bool.and_eq_true,decide_eq_true_eq] at h
  unfold Bd; omega
theorem kI {s:State} (h:Bd s 100000000):bO Tryz.prog 18 [.agg (bQ s)] (.bool (eJ s),[],[]):=by
  obtain ⟨h1,h2,h3,h4,h5,h6,h7⟩:=h.all
  exact Hp h1 h2 h3 h4 h5 h6 h7
set_option maxHeartbeats 8000000
end Go.Sak
