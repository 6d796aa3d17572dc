/- Part S62 of the proofs about the program: Px. Conditions: none. -/
import Derived.Test.YtojlofaafkdhgaaGreatS41
namespace Go.Sak
open Go Go.RowKit
set_option linter.unusedVariables false
set_option linter.unusedSimpArgs false

theorem gIs_iff {s : State} {id : Int} : gIs s id = true ↔ Rn s id ∧ opSide (me s id).kind = 2 := by
  simp only [gIs, Bool.and_eq_true, decide_eq_true_eq]
  constructor
  · rintro ⟨⟨h1, h2⟩, h3⟩; exact ⟨rn_of h1 h2, h3⟩
  · rintro ⟨h1, h3⟩; exact ⟨⟨h1.is, by unfold tRuns; rw [h1.run]; rfl⟩, h3⟩
theorem gs_len {s : State} {id : Int} : (gStep s id).threads.length = s.threads.length := by
  by_cases h0 : 0 ≤ id
  · exact (nf_th g_nf h0).1
  · rw [show gStep s id = s from by unfold gStep; rw [if_pos]; simp [gIs, fabIs]; omega]
theorem take_one {w : Word} {room : Int} (h : (wTake w room).2.2 = 1) : (wTake w room).2.1 = w.h ∧ 0 < posLen w := by
  unfold wTake at h ⊢
  split at h
  · cases h
  · split at h
    · rename_i h1 h2; rw [if_neg h1, if_pos h2]; exact ⟨rfl, h2⟩
    · split at h <;> cases h
theorem side_k {k : Int} (h : opSide k = 2) : k ≠ 9 := by
  intro e; subst e; simp [opSide] at h
theorem me_tell {u : State} {id : Int} {t : Thread} {k r g pc : Int} (h : Rn (put1 u id t) id) (hu : id < u.threads.length) : me (rTell (put1 u id t) id k r g pc) id = setPc (tTold t k r g) pc := by
  unfold rTell fabTell
  rw [if_pos h.is, me_put h.lo hu, put_put]
  unfold rAt
  rw [me_logged, me_put h.lo hu]
  exact me_put (s := logged (put1 u id _) _) h.lo (by show id < (u.threads.set _ _).length; rw [List.length_set]; exact hu)
theorem tell_slots {u : State} {id k r g pc : Int} : (rTell u id k r g pc).slots = u.slots := by unfold rTell fabTell rAt; split <;> rfl
/-- What the step behind a take does. -/
theorem reads {s : State} {id : Int} (hf : Fab s) (h0 : 0 ≤ id) (h1 : id < s.threads.length) (hp : (me s id).pc = 3) (ha : (me (gStep s id) id).pc = 4) :
    0 ≤ (me (gStep s id) id).reg ∧ (gStep (gStep s id) id).slots.length = s.slots.length ∧ (me (gStep s id) id).reg = s.word.h ∧ (me (gStep (gStep s id) id) id).pc = 6 ∧
    ((s.slots.getD ((me (gStep s id) id).reg.tmod s.slots.length).toNat default).stamp = (me (gStep s id) id).reg →
      (me (gStep (gStep s id) id) id).got = (me (gStep s id) id).got ∧ ((gStep (gStep s id) id).slots.getD ((me (gStep s id) id).reg.tmod s.slots.length).toNat default).stamp = (me (gStep s id) id).reg + s.slots.length) := by
  cases hI : gIs s id with
  | false =>
    have : gStep s id = s := by unfold gStep; rw [if_pos (by simp [hI])]
    rw [this, hp] at ha; cases ha
  | true =>
    obtain ⟨hR, hk⟩ := gIs_iff.1 hI
    have hl := hf.len
    have hsc := (sc_iff.1 hf.slot).1
    have hb := hf.wb
    have hs : gStep s id = gTake s id := by unfold gStep; rw [if_neg (by simp [hI]), hp]; rfl
    have hfa : Fab (gStep s id) := g_stays hf
    rw [hs] at ha hfa ⊢
    have hw : Rn (withWord s (wTake s.word s.slots.length).1) id := hR.wd (by rw [hl]; exact wp_take hf.word)
    have hta := take_at (w := s.word) (room := s.slots.length) (by rw [hl]; exact hf.word)
    by_cases hr : (wTake s.word s.slots.length).2.2 = 1
    · obtain ⟨hat, _⟩ := take_one hr
      have hRg : Rn (put1 (withWord s (wTake s.word s.slots.length).1) id (setReg (me s id) (wTake s.word s.slots.length).2.1)) id := hw.reg hta.1 hta.2
      have e : gTake s id = rTell (put1 (withWord s (wTake s.word s.slots.length).1) id (setReg (me s id) (wTake s.word s.slots.length).2.1)) id (me s id).kind 1 (fabValue s (wTake s.word s.slots.length).2.1) 4 := by
        unfold gTake; simp only []; rw [if_pos hr]
      have hme : me (gTake s id) id = setPc (tTold (setReg (me s id) s.word.h) (me s id).kind 1 (fabValue s s.word.h)) 4 := by
        rw [e]
        have := me_tell (u := withWord s (wTake s.word s.slots.length).1) (k := (me s id).kind) (r := 1) (g := fabValue s (wTake s.word s.slots.length).2.1) (pc := 4) hRg h1
        rw [this, hat]
      have ht : tTold (setReg (me s id) s.word.h) (me s id).kind 1 (fabValue s s.word.h) = ⟨(me s id).st, (me s id).kind, (me s id).val, (me s id).untl, (me s id).pc, s.word.h, (me s id).seen, (me s id).tries, (me s id).late, 1, fabValue s s.word.h⟩ := by
        unfold tTold; rw [if_pos (side_k hk)]; rfl
      rw [ht] at hme
      have hsl : (gTake s id).slots = s.slots := by rw [e, tell_slots]; rfl
      have hlen : (gTake s id).threads.length = s.threads.length := by rw [← hs]; exact gs_len
      have hRa : Rn (gTake s id) id := ⟨hfa, h0, by rw [hlen]; exact h1, by rw [hme]; exact hR.run⟩
      have hIa : gIs (gTake s id) id = true := gIs_iff.2 ⟨hRa, by rw [hme]; exact hk⟩
      have hpa : (me (gTake s id) id).pc = 4 := ha
      have hsb : gStep (gTake s id) id = gRead (gTake s id) id := by unfold gStep; rw [if_neg (by simp [hIa]), hpa]; rfl
      have hreg : (me (gTake s id) id).reg = s.word.h := by rw [hme]; rfl
      have hgot : (me (gTake s id) id).got = fabValue s s.word.h := by rw [hme]; rfl
      rw [hsb]
      have hmb : me (gRead (gTake s id) id) id = setPc (setGot (me (gTake s id) id) (slotRead s.slots s.word.h).1) 6 := by
        unfold gRead rAt
        rw [hreg, hsl]
        rw [show ∀ l, me (withSlots (put1 (gTake s id) id (setGot (me (gTake s id) id) (slotRead s.slots s.word.h).1)) l) id = setGot (me (gTake s id) id) (slotRead s.slots s.word.h).1 from fun l => me_put hRa.lo hRa.hi]
        exact me_put (s := withSlots (put1 (gTake s id) id _) _) hRa.lo (by show id < ((gTake s id).threads.set _ _).length; rw [List.length_set]; exact hRa.hi)
      have hslb : (gRead (gTake s id) id).slots = (slotRelease s.slots s.word.h).1 := by
        show (slotRelease (gTake s id).slots (me (gTake s id) id).reg).1 = _
        rw [hsl, hreg]
      have hpl : (s.word.h.tmod s.slots.length).toNat = slotAt s.slots s.word.h := by
        unfold slotAt posPlace posIs; rw [if_pos (by simp; omega)]
      rw [hreg, hmb, hslb, hgot, hpl]
      refine ⟨hb.1, slotR_len, rfl, rfl, fun hst => ?_⟩
      have hrd : slotReady s.slots s.word.h = true := by
        simp only [slotReady, Bool.and_eq_true, decide_eq_true_eq]; exact ⟨⟨hb.1, hf.slot⟩, hst⟩
      have hlt := slotAt_lt hf.slot hb.1
      have hval : fabValue s s.word.h = (s.slots.getD (slotAt s.slots s.word.h) default).val := by
        unfold fabValue; rw [if_neg (by simp [fab_iff.2 hf]; omega)]
      constructor
      · show (slotRead s.slots s.word.h).1 = _
        unfold slotRead; rw [if_neg (by simp [hf.slot, hrd]; omega), hval]
      · unfold slotRelease
        rw [if_neg (by simp [hf.slot, hrd]; omega), if_neg (by omega)]
        show ((s.slots.set _ _).getD _ default).stamp = _
        rw [getD_set, if_pos ⟨rfl, hlt⟩, hst]
    · exfalso
      by_cases h4 : (wTake s.word s.slots.length).2.2 = 4
      · have e : gTake s id = rAt s id 2 := by unfold gTake; simp only []; rw [if_neg hr, if_pos h4]
        rw [e] at ha
        unfold rAt at ha
        rw [me_put h0 h1] at ha
        exact absurd (show (2 : Int) = 4 from ha) (by decide)
      · have e : gTake s id = rEnds s id (wTake s.word s.slots.length).2.2 9 := by unfold gTake; simp only []; rw [if_neg hr, if_neg h4]
        rw [e] at ha
        have hm : me (rEnds s id (wTake s.word s.slots.length).2.2 9) id = setPc (tTold (me s id) (me s id).kind (wTake s.word s.slots.length).2.2 0) 9 := by
          unfold rEnds rTell fabTell
          rw [if_pos hR.is]
          unfold rAt
          rw [me_logged, me_put h0 h1]
          exact me_put (s := logged (put1 s id _) _) h0 (by show id < (s.threads.set _ _).length; rw [List.length_set]; exact h1)
        rw [hm] at ha
        exact absurd (show (9 : Int) = 4 from ha) (by decide)
end Go.Sak
