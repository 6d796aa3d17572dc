/- Part S87 of the proofs about the program: K113, K114. Conditions: none. -/
import Derived.Test.YtccdhjhffebpoaaGreatS86
import Derived.Test.YtccdhjhffebpoaaGreatS04
import Derived.Test.YtccdhjhffebpoaaGreatProg
import Derived.KernelRfl
import Derived.Test.YtccdhjhffebpoaaGreatS30
namespace Go.Sak
open Go Go.RowKit Go.Proofs
set_option linter.unusedVariables false
set_option linter.unusedSimpArgs false
set_option maxRecDepth 10000
set_option maxHeartbeats 8000000
theorem ev_f (s:State):((encZ s).drop 13).take 2=[.int .i64 s.full.ep,.slv 1 (s.full.ln.map encI)]:=rfl
theorem ev_e (s:State):((encZ s).drop 15).take 2=[.int .i64 s.empty.ep,.slv 1 (s.empty.ln.map encI)]:=rfl
theorem park_eq {t:Thread} (h:tRuns t=0):(tPark (setPc t 2) 2).1=(tPark t 2).1:=by
  have h2:tRuns (setPc t 2)=0:=h
  unfold tPark; rw [if_neg (by simp [h2]),if_neg (by simp [h])]; rfl
theorem wake_at {u:State} {id n pc:Int} (hR:Rn u id) (h0:0≤pc) (h1:pc≤11):fabWake (rAt u id pc) n=rAt (fabWake u n) id pc:=by
  have e1:fabIs (rAt u id pc) n=fabIs u n:=by
    have f1:=fab_iff.2 hR.fab
    have f2:=fab_iff.2 (hR.at h0 h1).fab
    unfold fabIs; rw [f1,f2]; simp [rAt,put1]
  have hlo:=hR.lo
  have hhi:=hR.hi
  have hid:id.toNat<u.threads.length:=by omega
  unfold fabWake; rw [e1]
  split
  · rename_i hn
    have hn':=lt_of_is hn
    by_cases e:n=id
    · subst e
      have hw:tWake (me u n)=me u n:=by unfold tWake; rw [if_neg (by rw [hR.run]; simp)]
      have hm:me (rAt u n pc) n=setPc (me u n) pc:=me_put hlo hhi
      have hw2:tWake (setPc (me u n) pc)=setPc (me u n) pc:=by
        unfold tWake; rw [if_neg]
        show ¬ (me u n).st=2
        rw [hR.run]; simp
      rw [hm,hw2,hw]
      have hl:(u.threads.set n.toNat (setPc (me u n) pc)).set n.toNat (setPc (me u n) pc)=(u.threads.set n.toNat (me u n)).set n.toNat (setPc ((u.threads.set n.toNat (me u n)).getD n.toNat default) pc):=by
        rw [getD_set_same hid,set_set,set_set]
      simp only [rAt,put1,me] at hl ⊢
      rw [hl]
    · have hm:me (rAt u id pc) n=me u n:=by simp only [rAt,put1,me]; rw [getD_set,if_neg (by omega)]
      rw [hm]
      have hl:(u.threads.set id.toNat (setPc (me u id) pc)).set n.toNat (tWake (me u n))=(u.threads.set n.toNat (tWake (me u n))).set id.toNat (setPc ((u.threads.set n.toNat (tWake (me u n))).getD id.toNat default) pc):=by
        rw [getD_set,if_neg (by omega),List.set_comm _ _ (by omega)]
        rfl
      simp only [rAt,put1,me] at hl ⊢
      rw [hl]
  · rfl
end Go.Sak
