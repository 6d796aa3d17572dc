/- Part S67 of the proofs about the program: Xt, Pt. Conditions: none. -/
import Derived.Test.YtojlofaafkdhgaaGreatS03
import Derived.Test.YtojlofaafkdhgaaGreatS62
namespace Go.Sak
open Go Go.RowKit
set_option linter.unusedVariables false
set_option linter.unusedSimpArgs false
def qFirst (l : List Int) (n : Int) : Bool := decide ((l.length : Int) > 0) && decide (l.getD 0 default = n)
def qEnds (mode kind res until_ : Int) : Bool := decide (res = 6) && decide (mode = 1) || decide (res = 7) && decide (mode = 2) || decide (res = 5) && decide (kind = until_)
def qFull (q : Queue) : Bool := decide ((q.vals.length : Int) ≥ q.cap)
def qRecv (q : Queue) (e : Entry) : Queue × Bool :=
  if e.res = 1 then (if qFirst q.vals e.got = true then (⟨q.vals.drop 1, q.cap, q.pol, q.mode⟩, decide (q.mode ≠ 2)) else (q, false))
  else if e.res = 4 then (q, decide (e.kind = 5) && decide (q.mode = 0) && decide ((q.vals.length : Int) = 0))
  else if e.res = 6 ∧ (q.vals.length : Int) > 0 then (q, false)
  else (q, qEnds q.mode e.kind e.res 6)
theorem first_len {l : List Int} {n : Int} (h : qFirst l n = true) : 1 ≤ l.length := by
  unfold qFirst at h
  simp only [Bool.and_eq_true, decide_eq_true_eq] at h
  omega
def qPut (q : Queue) (r : Queue × Bool) : Queue × Bool := if r.2 = true then r else (q, false)
theorem qRecv_len {q : Queue} {e : Entry} : (qRecv q e).1.vals.length ≤ q.vals.length := by unfold qRecv; split <;> (try split) <;> (try split) <;> simp
end Go.Sak
namespace Go.Sak
open Go Go.RowKit
set_option linter.unusedVariables false
set_option linter.unusedSimpArgs false

theorem fq_eq {a s : State} (ha : Fab a) (hs : Fab s) (hw : a.word = s.word) (hl : a.slots.length = s.slots.length) (hv : ∀ i : Nat, (a.slots.getD i default).val = (s.slots.getD i default).val) (hc : a.cfg = s.cfg) : fabQueue a = fabQueue s := by
  unfold fabQueue
  rw [if_neg (by simp [fab_iff.2 ha]), if_neg (by simp [fab_iff.2 hs]), hw, hl, hc]
  have : ∀ p : Int, slotAt a.slots p = slotAt s.slots p := fun p => by unfold slotAt; rw [hl]
  simp only [this, hv]
theorem fq_same {a s : State} (ha : Fab a) (hs : Fab s) (hw : a.word = s.word) (hl : a.slots = s.slots) (hc : a.cfg = s.cfg) : fabQueue a = fabQueue s :=
  fq_eq ha hs hw (by rw [hl]) (fun i => by rw [hl]) hc
theorem tell_all {s : State} {id k r g pc : Int} (h : Rn s id) : (rTell s id k r g pc).word = s.word ∧ (rTell s id k r g pc).slots = s.slots ∧ (rTell s id k r g pc).cfg = s.cfg ∧ (rTell s id k r g pc).log = s.log ++ [⟨id, k, (me s id).val, r, g⟩] := by
  unfold rTell fabTell
  rw [if_pos h.is]; exact ⟨rfl, rfl, rfl, rfl⟩
theorem wake_all {s : State} {i : Int} : (fabWake s i).word = s.word ∧ (fabWake s i).slots = s.slots ∧ (fabWake s i).cfg = s.cfg ∧ (fabWake s i).log = s.log := by
  unfold fabWake; split <;> exact ⟨rfl, rfl, rfl, rfl⟩
def QOk (s a : State) (id : Int) : Prop :=
  a.log = s.log ∧ fabQueue a = fabQueue s ∨ ∃ e : Entry, a.log = s.log ++ [e] ∧ e.thr = id ∧ (e.kind = 4 ∨ e.kind = 5 ∨ e.kind = 6) ∧ (qRecv (fabQueue s) e).2 = true ∧ fabQueue a = (qRecv (fabQueue s) e).1
theorem q_stay {a s : State} {id : Int} (ha : Fab a) (hs : Fab s) (h : a.word = s.word ∧ a.slots = s.slots ∧ a.cfg = s.cfg ∧ a.log = s.log) : QOk s a id :=
  .inl ⟨h.2.2.2, fq_same ha hs h.1 h.2.1 h.2.2.1⟩
theorem q_end {s : State} {id r pc : Int} (hR : Rn s id) (hk : opSide (me s id).kind = 2) (ha : Fab (rEnds s id r pc)) (h1 : (qRecv (fabQueue s) ⟨id, (me s id).kind, (me s id).val, r, 0⟩).2 = true) (h2 : (qRecv (fabQueue s) ⟨id, (me s id).kind, (me s id).val, r, 0⟩).1 = fabQueue s) : QOk s (rEnds s id r pc) id := by
  obtain ⟨t1, t2, t3, t4⟩ := tell_all (k := (me s id).kind) (r := r) (g := 0) (pc := pc) hR
  refine .inr ⟨_, t4, rfl, ?_, h1, ?_⟩
  · show (me s id).kind = 4 ∨ _
    unfold opSide at hk
    split at hk
    · cases hk
    · split at hk
      · assumption
      · split at hk <;> cases hk
  · rw [h2]; exact fq_same ha hR.fab t1 t2 t3
theorem fq_at {s : State} (h : Fab s) : fabQueue s = ⟨(List.range (posLen s.word).toNat).map (fun (i : Nat) => (s.slots.getD (slotAt s.slots (s.word.h + (i : Int))) default).val), s.slots.length, s.cfg.pol, s.word.m⟩ := by
  unfold fabQueue; rw [if_neg (by simp [fab_iff.2 h])]
theorem late_k {s : State} {id : Int} (hR : Rn s id) (hk : opSide (me s id).kind = 2) (hl : (me s id).late = true) : (me s id).kind = 6 := by
  have ht : tCheck (me s id) = true := hR.fab.thr _ (by unfold me; exact getD_mem (by have := hR.lo; have := hR.hi; omega))
  simp only [tCheck, tTime, tKind, opTimed, within, Bool.and_eq_true, decide_eq_true_eq] at ht
  simp only [opSide] at hk
  grind
theorem q_late {s : State} {id : Int} (hR : Rn s id) (hk : opSide (me s id).kind = 2) (hl : (me s id).late = true) (ha : Fab (rEnds s id 5 9)) : QOk s (rEnds s id 5 9) id := by
  have h6 := late_k hR hk hl
  refine q_end hR hk ha ?_ ?_ <;> (unfold qRecv; rw [if_neg (by simp), if_neg (by simp), if_neg (by simp)])
  simp [qEnds, h6]
theorem take_is {w : Word} {room : Int} (h : posCheck w room = true) : ((wTake w room).2.2 = 7 ∧ w.m = 2) ∨ ((wTake w room).2.2 = 1 ∧ w.m ≠ 2 ∧ 0 < posLen w ∧ (wTake w room).1 = ⟨w.h + 1, w.t, w.m⟩ ∧ (wTake w room).2.1 = w.h) ∨ ((wTake w room).2.2 = 6 ∧ w.m = 1 ∧ posLen w ≤ 0) ∨ ((wTake w room).2.2 = 4 ∧ w.m = 0 ∧ posLen w ≤ 0) := by
  have hm : 0 ≤ w.m ∧ w.m ≤ 2 := by
    simp only [posCheck, within, Bool.and_eq_true, decide_eq_true_eq] at h; omega
  unfold wTake
  by_cases h2 : w.m = 2
  · left; rw [if_pos (by simp [wHalted, h2])]; exact ⟨rfl, h2⟩
  · rw [if_neg (by simp [wHalted, h2, h])]
    by_cases hl : posLen w > 0
    · right; left; rw [if_pos hl]; exact ⟨rfl, h2, hl, rfl, rfl⟩
    · rw [if_neg hl]
      by_cases h1 : w.m = 1
      · right; right; left; rw [if_pos h1]; exact ⟨rfl, h1, by omega⟩
      · right; right; right; rw [if_neg h1]; exact ⟨rfl, by omega, by omega⟩
theorem q_over {s : State} {id : Int} (hR : Rn s id) (hk : opSide (me s id).kind = 2) (h1 : (wTake s.word s.slots.length).2.2 ≠ 1) (h4 : (wTake s.word s.slots.length).2.2 ≠ 4) (ha : Fab (rEnds s id (wTake s.word s.slots.length).2.2 9)) : QOk s (rEnds s id (wTake s.word s.slots.length).2.2 9) id := by
  have hp : posCheck s.word s.slots.length = true := by rw [hR.fab.len]; exact hR.fab.word
  rcases take_is hp with ⟨e, hm⟩ | ⟨e, _⟩ | ⟨e, hm, hl⟩ | ⟨e, _⟩
  · rw [e] at ha ⊢
    refine q_end hR hk ha ?_ ?_ <;> (unfold qRecv; rw [if_neg (by simp), if_neg (by simp), if_neg (by simp)])
    simp [qEnds, fq_at hR.fab, hm]
  · exact absurd e h1
  · rw [e] at ha ⊢
    have hv : ¬ ((6 : Int) = 6 ∧ ((fabQueue s).vals.length : Int) > 0) := by rw [fq_at hR.fab]; simp; omega
    refine q_end hR hk ha ?_ ?_ <;> (unfold qRecv; rw [if_neg (by simp), if_neg (by simp), if_neg hv])
    simp [qEnds, fq_at hR.fab, hm]
  · exact absurd e h4
theorem q_vain {s : State} {id : Int} (hR : Rn s id) (hk : opSide (me s id).kind = 2) (h4 : (wTake s.word s.slots.length).2.2 = 4) (ha : Fab (gVain s id)) : QOk s (gVain s id) id := by
  have hp : posCheck s.word s.slots.length = true := by rw [hR.fab.len]; exact hR.fab.word
  unfold gVain at ha ⊢
  split
  · rename_i h5
    rw [if_pos h5] at ha
    rcases take_is hp with ⟨e, _⟩ | ⟨e, _⟩ | ⟨e, _⟩ | ⟨_, hm, hl⟩
    · omega
    · omega
    · omega
    · refine q_end hR hk ha ?_ ?_ <;> (unfold qRecv; rw [if_neg (by simp), if_pos rfl])
      simp [fq_at hR.fab, hm, h5]; omega
  · rename_i h5
    rw [if_neg h5] at ha
    split
    · rename_i hl; rw [if_pos hl] at ha; exact q_late hR hk hl ha
    · rename_i hl; rw [if_neg hl] at ha
      split at ha
      · rename_i hw; rw [if_pos hw]; exact q_stay ha hR.fab ⟨rfl, rfl, rfl, rfl⟩
      · rename_i hw; rw [if_neg hw]; exact q_stay ha hR.fab ⟨rfl, rfl, rfl, rfl⟩
theorem q_take {s : State} {id : Int} (hR : Rn s id) (hk : opSide (me s id).kind = 2) (ha : Fab (gTake s id)) : QOk s (gTake s id) id := by
  have hl := hR.fab.len
  have hp : posCheck s.word s.slots.length = true := by rw [hl]; exact hR.fab.word
  have hw : Rn (withWord s (wTake s.word s.slots.length).1) id := hR.wd (by rw [hl]; exact wp_take hR.fab.word)
  have hta := take_at hp
  by_cases h1 : (wTake s.word s.slots.length).2.2 = 1
  · rcases take_is hp with ⟨e, _⟩ | ⟨_, hm, hlen, hw1, hw2⟩ | ⟨e, _⟩ | ⟨e, _⟩
    · omega
    · have hRg : Rn (put1 (withWord s (wTake s.word s.slots.length).1) id (setReg (me s id) (wTake s.word s.slots.length).2.1)) id := hw.reg hta.1 hta.2
      have e : gTake s id = rTell (put1 (withWord s (wTake s.word s.slots.length).1) id (setReg (me s id) (wTake s.word s.slots.length).2.1)) id (me s id).kind 1 (fabValue s (wTake s.word s.slots.length).2.1) 4 := by
        unfold gTake; simp only []; rw [if_pos h1]
      obtain ⟨t1, t2, t3, t4⟩ := tell_all (k := (me s id).kind) (r := 1) (g := fabValue s (wTake s.word s.slots.length).2.1) (pc := 4) hRg
      rw [← e] at t1 t2 t3 t4
      have hfv : fabValue s (wTake s.word s.slots.length).2.1 = (s.slots.getD (slotAt s.slots s.word.h) default).val := by
        rw [hw2] at hta ⊢
        unfold fabValue; rw [if_neg (by simp [fab_iff.2 hR.fab]; omega)]
      have hwb := hR.fab.wb
      have hpl : posLen s.word = s.word.t - s.word.h := by
        revert hlen; unfold posLen; split
        · intro h; omega
        · rw [if_neg (by omega)]; intro _; rfl
      obtain ⟨n, hn⟩ : ∃ n : Nat, posLen s.word = n + 1 := ⟨(posLen s.word - 1).toNat, by omega⟩
      have hpl2 : posLen (gTake s id).word = n := by
        rw [t1]; show posLen (wTake s.word s.slots.length).1 = n
        rw [hw1]; unfold posLen; split <;> (simp only [] at *; omega)
      have hq : fabQueue s = ⟨(s.slots.getD (slotAt s.slots s.word.h) default).val :: (List.range n).map (fun (i : Nat) => (s.slots.getD (slotAt s.slots (s.word.h + 1 + (i : Int))) default).val), s.slots.length, s.cfg.pol, s.word.m⟩ := by
        rw [fq_at hR.fab, hn, show ((n : Int) + 1).toNat = n + 1 from by omega, List.range_succ_eq_map]
        simp only [List.map_cons, List.map_map, Function.comp_def, Int.natCast_zero, Int.add_zero]
        refine congrArg (fun v => Queue.mk v s.slots.length s.cfg.pol s.word.m) (congrArg (List.cons _) (List.map_congr_left fun i _ => ?_))
        rw [show s.word.h + ((i.succ : Nat) : Int) = s.word.h + 1 + (i : Int) from by omega]
      have hq2 : fabQueue (gTake s id) = ⟨(List.range n).map (fun (i : Nat) => (s.slots.getD (slotAt s.slots (s.word.h + 1 + (i : Int))) default).val), s.slots.length, s.cfg.pol, s.word.m⟩ := by
        rw [fq_at ha, hpl2, t1, t2, t3]
        show (⟨(List.range (n : Int).toNat).map (fun (i : Nat) => (s.slots.getD (slotAt s.slots ((wTake s.word s.slots.length).1.h + (i : Int))) default).val), s.slots.length, s.cfg.pol, (wTake s.word s.slots.length).1.m⟩ : Queue) = _
        rw [hw1]; rfl
      refine .inr ⟨_, t4, rfl, ?_, ?_, ?_⟩
      · show (me s id).kind = 4 ∨ _
        unfold opSide at hk
        split at hk
        · cases hk
        · split at hk
          · assumption
          · split at hk <;> cases hk
      · rw [hq, hfv]; simp [qRecv, qFirst, hm]
      · rw [hq, hq2, hfv]; simp [qRecv, qFirst]
    · omega
    · omega
  · unfold gTake at ha ⊢
    simp only [] at ha ⊢
    rw [if_neg h1] at ha ⊢
    by_cases h4 : (wTake s.word s.slots.length).2.2 = 4
    · rw [if_pos h4] at ha ⊢; exact q_stay ha hR.fab ⟨rfl, rfl, rfl, rfl⟩
    · rw [if_neg h4] at ha ⊢; exact q_over hR hk h1 h4 ha
theorem g_queue {s : State} {id : Int} (hf : Fab s) : QOk s (gStep s id) id := by
  have ha := g_stays (id := id) hf
  cases hI : gIs s id with
  | false =>
    have : gStep s id = s := by unfold gStep; rw [if_pos (by simp [hI])]
    rw [this]; exact .inl ⟨rfl, rfl⟩
  | true =>
    obtain ⟨hR, hk⟩ := gIs_iff.1 hI
    unfold gStep at ha ⊢
    rw [if_neg (by simp [hI])] at ha ⊢
    split at ha
    · exact q_stay ha hf ⟨rfl, rfl, rfl, rfl⟩
    · unfold gFirst at ha ⊢
      split at ha
      · rename_i h; rw [if_pos h]; exact q_stay ha hf ⟨rfl, rfl, rfl, rfl⟩
      · rename_i h; rw [if_neg h]
        split at ha
        · rename_i h2; rw [if_pos h2]; exact q_late hR hk h2 ha
        · rename_i h2; rw [if_neg h2]; exact q_stay ha hf ⟨rfl, rfl, rfl, rfl⟩
    · unfold gLook at ha ⊢
      split at ha
      · rename_i h; rw [if_pos h]; exact q_stay ha hf ⟨rfl, rfl, rfl, rfl⟩
      · rename_i h; rw [if_neg h]
        split at ha
        · rename_i h2; rw [if_pos h2]; exact q_vain hR hk h2 ha
        · rename_i h2; rw [if_neg h2]; exact q_over hR hk h h2 ha
    · exact q_take hR hk ha
    · refine .inl ⟨rfl, fq_eq ha hf rfl ?_ ?_ rfl⟩
      · show (slotRelease s.slots (me s id).reg).1.length = _
        unfold slotRelease; split
        · rfl
        · split
          · rfl
          · simp
      · intro i
        show ((slotRelease s.slots (me s id).reg).1.getD i default).val = _
        unfold slotRelease; split
        · rfl
        · split
          · rfl
          · show ((s.slots.set _ _).getD i default).val = _
            rw [getD_set]; split
            · rename_i h; rw [← h.1]
            · rfl
    · exact q_stay ha hf ⟨rfl, rfl, rfl, rfl⟩
    · unfold gNotify at ha ⊢
      simp only [] at ha ⊢
      refine q_stay ha hf ?_
      split
      · obtain ⟨w1, w2, w3, w4⟩ := wake_all (s := withFull s (vNotify s.full).1) (i := (vNotify s.full).2.1)
        exact ⟨w1, w2, w3, w4⟩
      · exact ⟨rfl, rfl, rfl, rfl⟩
    · unfold gAgain at ha ⊢
      refine q_stay ha hf ?_
      split <;> exact ⟨rfl, rfl, rfl, rfl⟩
    · unfold gCommit at ha ⊢
      refine q_stay ha hf ?_
      split
      · exact ⟨rfl, rfl, rfl, rfl⟩
      · simp only []; split <;> exact ⟨rfl, rfl, rfl, rfl⟩
    · exact q_stay ha hf ⟨rfl, rfl, rfl, rfl⟩
end Go.Sak
