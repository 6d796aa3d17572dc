/- Part S67 of the proofs about the program: Xt, Pt. Conditions: none. -/
import Derived.Test.YtojlofaafkdhgaaGreatS03
import Derived.Test.YtojlofaafkdhgaaGreatS41
namespace Go.Sak
open Go Go.RowKit
set_option linter.unusedVariables false
set_option linter.unusedSimpArgs false
def qFirst (l : List Int) (n : Int) : Bool := decide ((l.length : Int) > 0) && decide (l.getD 0 default = n)
def qEnds (mode kind res until_ : Int) : Bool := decide (res = 6) && decide (mode = 1) || decide (res = 7) && decide (mode = 2) || decide (res = 5) && decide (kind = until_)
def qFull (q : Queue) : Bool := decide ((q.vals.length : Int) ≥ q.cap)
def qSend (q : Queue) (e : Entry) : Queue × Bool :=
  if e.res = 1 then (⟨q.vals ++ [e.val], q.cap, q.pol, q.mode⟩, decide (q.mode = 0) && !qFull q)
  else if e.res = 2 then (q, decide (e.kind = 2) && decide (q.mode = 0) && qFull q && decide (q.pol = 0))
  else if e.res = 3 then (q, decide (q.mode = 0) && qFull q && decide (q.pol = 1))
  else (q, qEnds q.mode e.kind e.res 3)
def qEvict (q : Queue) (e : Entry) : Queue × Bool :=
  if qFirst q.vals e.got = true then (⟨q.vals.drop 1, q.cap, q.pol, q.mode⟩, decide (e.res = 1) && decide (q.mode = 0) && qFull q && decide (q.pol = 2)) else (q, false)
theorem first_len {l : List Int} {n : Int} (h : qFirst l n = true) : 1 ≤ l.length := by
  unfold qFirst at h
  simp only [Bool.and_eq_true, decide_eq_true_eq] at h
  omega
def qPut (q : Queue) (r : Queue × Bool) : Queue × Bool := if r.2 = true then r else (q, false)
theorem qSend_len {q : Queue} {e : Entry} : (qSend q e).1.vals.length ≤ q.vals.length + 1 := by unfold qSend; split <;> (try split) <;> (try split) <;> simp
theorem qEvict_len {q : Queue} {e : Entry} : (qEvict q e).1.vals.length ≤ q.vals.length := by unfold qEvict; split <;> simp
end Go.Sak
namespace Go.Sak
open Go Go.RowKit
set_option linter.unusedVariables false
set_option linter.unusedSimpArgs false

theorem fq_eq {a s : State} (ha : Fab a) (hs : Fab s) (hw : a.word = s.word) (hl : a.slots.length = s.slots.length) (hv : ∀ i : Nat, (a.slots.getD i default).val = (s.slots.getD i default).val) (hc : a.cfg = s.cfg) : fabQueue a = fabQueue s := by
  unfold fabQueue
  rw [if_neg (by simp [fab_iff.2 ha]), if_neg (by simp [fab_iff.2 hs]), hw, hl, hc]
  have : ∀ p : Int, slotAt a.slots p = slotAt s.slots p := fun p => by unfold slotAt; rw [hl]
  simp only [this, hv]
theorem fq_same {a s : State} (ha : Fab a) (hs : Fab s) (hw : a.word = s.word) (hl : a.slots = s.slots) (hc : a.cfg = s.cfg) : fabQueue a = fabQueue s :=
  fq_eq ha hs hw (by rw [hl]) (fun i => by rw [hl]) hc
theorem tell_all {s : State} {id k r g pc : Int} (h : Rn s id) : (rTell s id k r g pc).word = s.word ∧ (rTell s id k r g pc).slots = s.slots ∧ (rTell s id k r g pc).cfg = s.cfg ∧ (rTell s id k r g pc).log = s.log ++ [⟨id, k, (me s id).val, r, g⟩] := by
  unfold rTell fabTell
  rw [if_pos h.is]; exact ⟨rfl, rfl, rfl, rfl⟩
theorem wake_all {s : State} {i : Int} : (fabWake s i).word = s.word ∧ (fabWake s i).slots = s.slots ∧ (fabWake s i).cfg = s.cfg ∧ (fabWake s i).log = s.log := by
  unfold fabWake; split <;> exact ⟨rfl, rfl, rfl, rfl⟩
theorem fq_at {s : State} (h : Fab s) : fabQueue s = ⟨(List.range (posLen s.word).toNat).map (fun (i : Nat) => (s.slots.getD (slotAt s.slots (s.word.h + (i : Int))) default).val), s.slots.length, s.cfg.pol, s.word.m⟩ := by
  unfold fabQueue; rw [if_neg (by simp [fab_iff.2 h])]
end Go.Sak
