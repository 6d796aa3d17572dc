/- Part S111 of the proofs about the program: Xb, K220. Conditions: none. -/
import Derived.Test.YtahdilehajdhgaaGreatS03
import Derived.Test.YtahdilehajdhgaaGreatS32
import Derived.Test.YtahdilehajdhgaaGreatProg
import Derived.KernelRfl
namespace Go.Sak
open Go Go.RowKit
def Bd (s:State) (k:Nat):Prop:=s.slots.length≤k∧s.sends.length≤k∧s.recvs.length≤k∧s.full.ln.length≤k∧s.empty.ln.length≤k∧s.threads.length≤k∧s.log.length≤k
theorem Bd.mono {s:State} {k n:Nat} (h:Bd s k) (hk:k≤n):Bd s n:=by unfold Bd at *; omega
theorem wake_m1' {s:State}:fabWake s (-1)=s:=if_neg (by simp [fabIs])
theorem Bd.all {s:State} {k:Nat} (h:Bd s k):s.slots.length≤k∧s.sends.length≤k∧s.recvs.length≤k∧s.full.ln.length≤k∧s.empty.ln.length≤k∧s.threads.length≤k∧s.log.length≤k:=h
end Go.Sak
namespace Go.Sak
open Go Go.RowKit Go.Proofs
set_option linter.unusedVariables false
set_option linter.unusedSimpArgs false
set_option maxRecDepth 10000
set_option maxHeartbeats 8000000
theorem con15s {s:State}:Con Tryz.prog 15 [.agg (encZ s)] (.bool (few s),[],[]):=con15
theorem con17s {s u:State} (h:Bd s 100000000):Con Tryz.prog 17 [.agg (encZ s),.agg (encZ u)] (.bool (decide (s=u)),[],[]):=by
  obtain ⟨h1,h2,h3,h4,h5,h6,h7⟩:=h.all
  exact con17 h1 h2 h3 h4 h5 h6 h7
theorem few_bd {s:State} (h:few s=true):Bd s 200:=by
  simp only [few,Bool.and_eq_true,decide_eq_true_eq] at h
  unfold Bd; omega
theorem con18s {s:State} (h:Bd s 100000000):Con Tryz.prog 18 [.agg (encZ s)] (.bool (fabCheck s),[],[]):=by
  obtain ⟨h1,h2,h3,h4,h5,h6,h7⟩:=h.all
  exact con18 h1 h2 h3 h4 h5 h6 h7
theorem con41s {s:State} (h:Bd s 100000000):Con Tryz.prog 41 [.agg (encZ s),.int .i64 (-1)] (.agg (encZ s),[],[]):=by
  obtain ⟨h1,h2,h3,h4,h5,h6,h7⟩:=h.all
  have:=con41 (s_lg:=s.cfg.lg) (s_th:=s.cfg.th) (s_pol:=s.cfg.pol) (s_wt:=s.cfg.wt) (s_spin:=s.cfg.spin) (s_yld:=s.cfg.yld) (s_single:=s.cfg.single) (s_h:=s.word.h) (s_t:=s.word.t) (s_m:=s.word.m) (s_fe:=s.full.ep) (s_ee:=s.empty.ep) (s_now:=s.now) (id:=-1) h1 h2 h3 h4 h5 h6 h7
  rw [wake_m1'] at this
  exact this
end Go.Sak
