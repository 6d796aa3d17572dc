/- Part S48 of the proofs about the program: Pu, Pv, Pw. Conditions: none. -/
import Derived.Test.YtojlofaafkdhgaaGreatS46
namespace Go.Sak
open Go Go.RowKit
set_option linter.unusedVariables false
set_option linter.unusedSimpArgs false

theorem sd_fend {u : State} {id : Int} {t : Thread} {r : Int} (h : Sd u id t) (hk : t.kind ≠ 9) : rEnds (put1 u id t) id r 9 = put1 (logged u ⟨id, t.kind, t.val, r, 0⟩) id (setPc (tTold t t.kind r 0) 9) := by
  unfold rEnds
  rw [me_put h.lo h.hi, sd_tell h.rn h.hi]
theorem sd_10 {u : State} {id : Int} {t : Thread} {w : Word} (h : Sd u id t) (hp : t.pc = 10) (hw : wEvict u.word u.slots.length t.reg = (w, true)) :
    sStep (put1 u id t) id = put1 (logged (withWord u w) ⟨id, 9, t.val, 1, fabValue (put1 u id t) t.reg⟩) id (setPc t 11) := by
  rw [h.at, hp]
  show sEvict (put1 u id t) id = _
  have hr : Rn (put1 (withWord u w) id t) id := by
    have := h.rn.wd (w := w) (by
      have := wp_evict (head := t.reg) h.fab.word
      rw [← h.fab.len] at this ⊢
      have e : (wEvict (put1 u id t).word (put1 u id t).slots.length t.reg).1 = w := congrArg Prod.fst hw
      rw [e] at this; exact this)
    exact this
  unfold sEvict
  rw [me_put h.lo h.hi]
  show (if ¬ (wEvict u.word u.slots.length t.reg).2 = true then _ else rTell (put1 (withWord u (wEvict u.word u.slots.length t.reg).1) id t) id 9 1 _ 11) = _
  rw [hw, if_neg (by simp), sd_tell hr h.hi]
  rfl
theorem sd_11 {u : State} {id : Int} {t : Thread} (h : Sd u id t) (hp : t.pc = 11) (hr : slotReady u.slots t.reg = true) (hm : t.reg ≤ 1099511627776) :
    sStep (put1 u id t) id = put1 (withSlots u (u.slots.set (slotAt u.slots t.reg) ⟨t.reg + u.slots.length, (u.slots.getD (slotAt u.slots t.reg) default).val⟩)) id (setPc t 2) := by
  obtain ⟨h0, hc, hs⟩ := ready_stamp hr
  have e : slotRelease u.slots t.reg = (u.slots.set (slotAt u.slots t.reg) ⟨t.reg + u.slots.length, (u.slots.getD (slotAt u.slots t.reg) default).val⟩, 0) := by
    unfold slotRelease
    rw [if_neg (by simp [hc, hr]; omega), if_neg (by omega), hs]
  rw [h.at, hp]
  show sRelease (put1 u id t) id = _
  unfold sRelease
  rw [me_put h.lo h.hi]
  show (if (slotRelease u.slots t.reg).2 = 0 then rAt (withSlots (put1 u id t) (slotRelease u.slots t.reg).1) id 2 else _) = _
  rw [e, if_pos rfl]
  unfold rAt
  rw [show ∀ l, me (withSlots (put1 u id t) l) id = t from fun l => me_put h.lo h.hi]
  exact put_put (withSlots u _) id t _
theorem sd_5 {u : State} {id : Int} {t : Thread} (h : Sd u id t) (hp : t.pc = 5) : sStep (put1 u id t) id = put1 u id (setPc (setSeen t u.full.ep) 7) := by
  rw [h.at, hp]
  show sPrepare (put1 u id t) id = _
  unfold sPrepare rAt
  have hv : vPrepare (put1 u id t).full = u.full.ep := by unfold vPrepare; rw [if_pos h.fab.full]; rfl
  rw [hv, show ∀ r, me (put1 (put1 u id t) id r) id = r from fun r => by rw [put_put, me_put h.lo h.hi], me_put h.lo h.hi, put_put, put_put]
theorem sd_7 {u : State} {id : Int} {t : Thread} (h : Sd u id t) (hp : t.pc = 7) (hw : (wAccept u.word u.slots.length).2.2 = 2) (hl : t.late = false) : sStep (put1 u id t) id = put1 u id (setPc t 8) := by
  rw [h.at, hp]
  show sAgain (put1 u id t) id = _
  unfold sAgain
  rw [me_put h.lo h.hi, if_pos ⟨hw, by simp [hl]⟩]
  unfold rAt
  rw [me_put h.lo h.hi, put_put]
theorem sd_8 {u : State} {id : Int} {t : Thread} (h : Sd u id t) (hp : t.pc = 8) (hl : t.late = false) (hf : u.full.ln = []) (hs : t.seen = u.full.ep) :
    sStep (put1 u id t) id = put1 (withFull u ⟨u.full.ep, [id]⟩) id ⟨2, t.kind, t.val, t.untl, 2, t.reg, t.seen, 0, t.late, t.res, t.got⟩ := by
  rw [h.at, hp]
  show sCommit (put1 u id t) id = _
  have hv : vCommit u.full t.seen id = (⟨u.full.ep, [id]⟩, true, 0) := by
    unfold vCommit
    rw [if_neg (by have := h.fab.full; simp only [put1] at this; simp [this]), hf, (line_one h.lo h.id16).1, if_neg (by simp [hs])]
  unfold sCommit
  rw [me_put h.lo h.hi, if_neg (by simp [hl])]
  show (if (vCommit u.full t.seen id).2.1 = true then put1 (withFull (put1 u id t) (vCommit u.full t.seen id).1) id (tPark (setPc t 2) 2).1 else _) = _
  rw [hv, if_pos rfl]
  have : (tPark (setPc t 2) 2).1 = ⟨2, t.kind, t.val, t.untl, 2, t.reg, t.seen, 0, t.late, t.res, t.got⟩ := by
    unfold tPark tRuns
    rw [if_neg (by simp [setPc, h.run])]; rfl
  rw [this]
  exact put_put (withFull u _) id t _
theorem sd_stop {u : State} {id : Int} {t : Thread} {n : Nat} (h0 : 0 ≤ id) (h1 : id < u.threads.length) (hs : t.st ≠ 1) : sRun (put1 u id t) id n = (put1 u id t, 0) := by
  refine sRun_0 ?_
  cases hi : sIs (put1 u id t) id with
  | false => rfl
  | true =>
    have := (sIs_iff.1 hi).1.run
    rw [me_put h0 h1] at this
    exact absurd this hs
theorem fQ {c : Config} {s : State} (hf : Fab s) (hc : s.cfg = c) {h n : Nat} (hw : s.word = ⟨h, (h + n : Nat), 0⟩) {g : Nat → Int} (hs : ∀ i, i < n → (s.slots.getD (slotAt s.slots (h + (i : Nat) : Int)) default).val = g i) :
    fabQueue s = ⟨(List.range n).map g, confRoom c, c.pol, 0⟩ := by
  unfold fabQueue
  rw [if_neg (by simp [fab_iff.2 hf])]
  have e1 : posLen s.word = (n : Int) := by rw [hw, len_w (by omega) (by omega)]; omega
  have e2 : (s.slots.length : Int) = confRoom c := by rw [← hc]; exact hf.len
  have e3 : s.word.h = (h : Int) := by rw [hw]
  have e4 : s.word.m = 0 := by rw [hw]
  rw [e1, e2, e3, e4, hc]
  refine congrArg (fun v => Queue.mk v (confRoom c) c.pol 0) ?_
  refine List.map_congr_left fun i hi => hs i (by simpa using hi)
/-- What is left where nothing was let in. -/
theorem full_q {c : Config} {s : State} {r : Nat} (h : confOk c = true) (hr : (r : Int) = confRoom c) (hf : Fab s) (hc : s.cfg = c) (hw : s.word = ⟨0, r, 0⟩) (hs : s.slots = (fillS c 0 r).slots) :
    fabQueue s = ⟨(List.range r).map fun (i : Nat) => (i : Int), confRoom c, c.pol, 0⟩ := by
  have hl : (fillS c 0 r).slots.length = r := by show (fillSl (confRoom c).toNat 0 r).length = r; rw [fillSl_len]; omega
  refine fQ (h := 0) (n := r) hf hc (by rw [hw]; simp) fun i hi => ?_
  rw [hs, show ((0 : Nat) : Int) + (i : Int) = (i : Int) from by omega, slotAt_id (by rw [hl]; exact hi)]
  show ((fillSl (confRoom c).toNat 0 r).getD i default).val = _
  rw [fillSl_get (by omega), if_pos hi]
  show (0 : Int) + i = i; omega
theorem run_fab {s : State} {id : Int} {n : Nat} {Z : State} {k : Nat} (hf : Fab s) (h : sRun s id n = (Z, k)) : Fab Z := by
  have := s_check_run (s := s) (id := id) n
  rw [h] at this
  exact fab_iff.1 (this.trans (fab_iff.2 hf))
section
variable {c : Config} {r : Nat} {k val : Int}
/-- The first two steps. -/
theorem full_two (h : confOk c = true) (hr : (r : Int) = confRoom c) (hk : k = 1 ∨ k = 2 ∨ k = 3) (n : Nat) :
    ∃ u, u = withSends (fillS c 0 r) [0] ∧ Sd u 0 ⟨1, k, val, 0, 2, 0, 0, 0, false, 0, 0⟩ ∧ (wAccept u.word u.slots.length).2.2 = 2 ∧
      sRun (put1 (fillS c 0 r) 0 (t0 k val 0)) 0 (n + 2) = ((sRun (put1 u 0 ⟨1, k, val, 0, 2, 0, 0, 0, false, 0, 0⟩) 0 n).1, (sRun (put1 u 0 ⟨1, k, val, 0, 2, 0, 0, 0, false, 0, 0⟩) 0 n).2 + 2) := by
  have hrm := room_of h
  have h0 := fill_sd (b := 0) (n := r) (id := 0) (v := val) h (by omega) (by omega) (by omega) hk
  obtain ⟨hl1, hl2, hl3⟩ := line_one h0.lo h0.id16
  have e0 := sd_0 h0 rfl
  rw [show (fillS c 0 r).sends = [] from rfl, hl1] at e0
  have h1 := h0.step e0 rfl rfl rfl
  have e1 := sd_1 h1 rfl hl2
  have h2 := h1.step e1 rfl rfl rfl
  refine ⟨_, rfl, h2, fill_full h hr, ?_⟩
  rw [show n + 2 = n + 1 + 1 from rfl, sRun_s h0.is, e0, sRun_s h1.is, e1]
  rfl
/-- One who is told so, and leaves. -/
theorem full_told {u : State} {x res : Int} (hu : u = withSends (fillS c 0 r) [0]) (h2 : Sd u 0 ⟨1, k, val, 0, 2, 0, 0, x, false, 0, 0⟩) (hk : k = 1 ∨ k = 2 ∨ k = 3) (e : sStep (put1 u 0 ⟨1, k, val, 0, 2, 0, 0, x, false, 0, 0⟩) 0 = rEnds (put1 u 0 ⟨1, k, val, 0, 2, 0, 0, x, false, 0, 0⟩) 0 res 9) (n : Nat) :
    sRun (put1 u 0 ⟨1, k, val, 0, 2, 0, 0, x, false, 0, 0⟩) 0 (n + 2) = (put1 (withSends (logged u ⟨0, k, val, res, 0⟩) []) 0 (t9 k val 0 res 0), 2) := by
  obtain ⟨hl1, hl2, hl3⟩ := line_one h2.lo h2.id16
  have hk9 : k ≠ 9 := by omega
  rw [sd_fend h2 hk9] at e
  have ht : tTold ⟨1, k, val, 0, 2, 0, 0, x, false, 0, 0⟩ k res 0 = ⟨1, k, val, 0, 2, 0, 0, x, false, res, 0⟩ := by unfold tTold; rw [if_pos hk9]
  rw [ht] at e
  have h3 := h2.step e rfl rfl rfl
  have e3 := sd_9 h3 rfl
  rw [show n + 2 = n + 1 + 1 from rfl, sRun_s h2.is, e, sRun_s h3.is, e3, sd_end h3.lo (by exact h3.hi)]
  refine Prod.ext ?_ rfl
  subst hu
  show put1 (withSends _ (lLeave [0] 0).1) 0 _ = _
  rw [hl3]; rfl
/-- One who tries on so often. -/
theorem full_spin {u : State} (hu : u.cfg = c) (hw : (wAccept u.word u.slots.length).2.2 = 2) (hp : c.pol = 0) (hk : k ≠ 2) : ∀ (m : Nat) (x : Nat), x + m ≤ 1000 → (∀ j : Nat, j < m → waitNext c (x + j : Nat) ≠ 2) → Sd u 0 ⟨1, k, val, 0, 2, 0, 0, x, false, 0, 0⟩ →
    Sd u 0 ⟨1, k, val, 0, 2, 0, 0, (x + m : Nat), false, 0, 0⟩ ∧ ∀ n : Nat, sRun (put1 u 0 ⟨1, k, val, 0, 2, 0, 0, x, false, 0, 0⟩) 0 (n + m) = ((sRun (put1 u 0 ⟨1, k, val, 0, 2, 0, 0, (x + m : Nat), false, 0, 0⟩) 0 n).1, (sRun (put1 u 0 ⟨1, k, val, 0, 2, 0, 0, (x + m : Nat), false, 0, 0⟩) 0 n).2 + m)
  | 0, x, _, _, h => ⟨h, fun n => rfl⟩
  | m + 1, x, hx, hj, h => by
    have e : sStep (put1 u 0 ⟨1, k, val, 0, 2, 0, 0, x, false, 0, 0⟩) 0 = put1 u 0 ⟨1, k, val, 0, 2, 0, 0, ((x + 1 : Nat) : Int), false, 0, 0⟩ := by
      rw [sd_2f h rfl hw]
      have hcp : (put1 u 0 ⟨1, k, val, 0, 2, 0, 0, (x : Int), false, 0, 0⟩).cfg = c := hu
      unfold sFull
      rw [hcp, if_neg (by omega), if_neg (by omega), me_put h.lo h.hi, if_neg hk, if_neg (by simp), if_neg (by exact hj 0 (by omega))]
      unfold rOn
      rw [me_put h.lo h.hi, put_put]
      have : min ((x : Int) + 1) 1099511627776 = ((x + 1 : Nat) : Int) := by omega
      simp only [setTries, this]
    have h1 := h.step e rfl rfl rfl
    obtain ⟨g1, g2⟩ := full_spin hu hw hp hk m (x + 1) (by omega) (fun j hjm => by have := hj (j + 1) (by omega); rwa [show x + (j + 1) = x + 1 + j from by omega] at this) h1
    rw [show x + 1 + m = x + (m + 1) from by omega] at g1 g2
    refine ⟨g1, fun n => ?_⟩
    rw [show n + (m + 1) = n + m + 1 from rfl, sRun_s h.is, e, g2 n]
    rfl
/-- One who parks. -/
theorem full_park {u : State} {x : Nat} (hu : u.cfg = c) (hw : (wAccept u.word u.slots.length).2.2 = 2) (hp : c.pol = 0) (hk : k ≠ 2) (hj : waitNext c x = 2) (hf : u.full.ln = []) (h : Sd u 0 ⟨1, k, val, 0, 2, 0, 0, x, false, 0, 0⟩) (n : Nat) :
    sRun (put1 u 0 ⟨1, k, val, 0, 2, 0, 0, x, false, 0, 0⟩) 0 (n + 4) = (put1 (withFull u ⟨u.full.ep, [0]⟩) 0 ⟨2, k, val, 0, 2, 0, u.full.ep, 0, false, 0, 0⟩, 4) := by
  have e : sStep (put1 u 0 ⟨1, k, val, 0, 2, 0, 0, x, false, 0, 0⟩) 0 = put1 u 0 ⟨1, k, val, 0, 5, 0, 0, x, false, 0, 0⟩ := by
    rw [sd_2f h rfl hw]
    have hcp : (put1 u 0 ⟨1, k, val, 0, 2, 0, 0, (x : Int), false, 0, 0⟩).cfg = c := hu
    unfold sFull
    rw [hcp, if_neg (by omega), if_neg (by omega), me_put h.lo h.hi, if_neg hk, if_neg (by simp), if_pos (by exact hj)]
    unfold rAt
    rw [me_put h.lo h.hi, put_put]; rfl
  have h1 := h.step e rfl rfl rfl
  have e1 := sd_5 h1 rfl
  have h2 := h1.step e1 rfl rfl rfl
  have e2 := sd_7 h2 rfl hw rfl
  have h3 := h2.step e2 rfl rfl rfl
  have e3 := sd_8 h3 rfl rfl hf rfl
  rw [show n + 4 = n + 3 + 1 from rfl, sRun_s h.is, e, show n + 3 = n + 2 + 1 from rfl, sRun_s h1.is, e1, show n + 2 = n + 1 + 1 from rfl, sRun_s h2.is, e2, sRun_s h3.is, e3, sd_stop h3.lo (by exact h3.hi) (fun e => absurd (show (2 : Int) = 1 from e) (by decide))]
  rfl
end
end Go.Sak
namespace Go.Sak
open Go Go.RowKit
set_option linter.unusedVariables false
set_option linter.unusedSimpArgs false
section
variable {c : Config} {r : Nat} {k val : Int}
theorem run_cons {x y z : State} {id : Int} {n m : Nat} (h : sIs x id = true) (e : sStep x id = y) (r : sRun y id n = (z, m)) : sRun x id (n + 1) = (z, m + 1) := by rw [sRun_s h, e, r]
theorem me_put2 {u : State} {id : Int} {t r : Thread} (h0 : 0 ≤ id) (h1 : id < u.threads.length) : me (put1 (put1 u id t) id r) id = r := by rw [put_put, me_put h0 h1]
theorem full_old (h : confOk c = true) (hr : (r : Int) = confRoom c) (hk : k = 1 ∨ k = 2 ∨ k = 3) (hp : c.pol = 2) {u : State} (hu : u = withSends (fillS c 0 r) [0]) (h2 : Sd u 0 ⟨1, k, val, 0, 2, 0, 0, 0, false, 0, 0⟩) (hw : (wAccept u.word u.slots.length).2.2 = 2) (n : Nat) :
    ∃ Z, sRun (put1 u 0 ⟨1, k, val, 0, 2, 0, 0, 0, false, 0, 0⟩) 0 (n + 8) = (Z, 8) ∧ Z.cfg = c ∧ Z.word = ⟨(1 : Nat), (1 + r : Nat), 0⟩ ∧ Z.slots = (fillS c 0 r).slots.set 0 ⟨r, val⟩ ∧ Z.threads = (fillS c 0 r).threads.set 0 (t9 k val 0 1 0) ∧ Z.log.length = r + 2 := by
  have hrm := room_of h
  obtain ⟨hl1, hl2, hl3⟩ := line_one h2.lo h2.id16
  have hk9 : k ≠ 9 := by omega
  have hlen : (fillS c 0 r).slots.length = r := by show (fillSl (confRoom c).toNat 0 r).length = r; rw [fillSl_len]; omega
  have hul : u.slots.length = r := by rw [hu]; exact hlen
  have huw : u.word = ⟨0, r, 0⟩ := by rw [hu]; rfl
  have hpl : ∀ l : List Slot, l.length = r → slotAt l 0 = 0 := fun l hl => slotAt_id (l := l) (j := 0) (by omega)
  have hg0 : u.slots.getD 0 default = ⟨0, 0⟩ := by
    rw [hu]
    show (fillSl (confRoom c).toNat 0 r).getD 0 default = _
    rw [fillSl_get (by omega), if_pos (by omega)]; rfl
  -- looks
  have e2 : sStep (put1 u 0 ⟨1, k, val, 0, 2, 0, 0, 0, false, 0, 0⟩) 0 = put1 u 0 ⟨1, k, val, 0, 10, 0, 0, 0, false, 0, 0⟩ := by
    rw [sd_2f h2 rfl hw]
    have hcp : (put1 u 0 ⟨1, k, val, 0, 2, 0, 0, 0, false, 0, 0⟩).cfg = c := by rw [hu]; rfl
    have hwp : (put1 u 0 ⟨1, k, val, 0, 2, 0, 0, 0, false, 0, 0⟩).word.h = 0 := by show u.word.h = 0; rw [huw]
    unfold sFull
    rw [hcp, if_neg (by omega), if_pos hp, hwp, me_put h2.lo h2.hi]
    unfold rAt
    rw [me_put2 h2.lo h2.hi, put_put, put_put]; rfl
  have h3 := h2.step e2 rfl rfl rfl
  -- lets the oldest one go
  have hpc : posCheck ⟨0, (r : Int), 0⟩ (r : Int) = true := by simp only [posCheck, within, Bool.and_eq_true, decide_eq_true_eq, len_fill]; omega
  have e3 := sd_10 (w := ⟨1, r, 0⟩) h3 rfl (by
    show wEvict u.word u.slots.length 0 = _
    rw [huw, hul]
    unfold wEvict
    rw [if_neg (by simp [wHalted, hpc, posFull, len_fill]; omega)]
    rfl)
  have h4 := h3.step e3 rfl rfl rfl
  have hrd : slotReady u.slots 0 = true := by
    simp only [slotReady, Bool.and_eq_true, decide_eq_true_eq]
    refine ⟨⟨by decide, h2.fab.slot⟩, ?_⟩
    show (u.slots.getD (slotAt u.slots 0) default).stamp = 0
    rw [hpl _ hul, hg0]
  have e4 := sd_11 h4 rfl hrd (by show (0 : Int) ≤ _; decide)
  have h5 := h4.step e4 rfl rfl rfl
  -- looks again
  generalize hU : withSlots (logged (withWord u ⟨1, r, 0⟩) ⟨0, 9, val, 1, fabValue (put1 u 0 ⟨1, k, val, 0, 10, 0, 0, 0, false, 0, 0⟩) 0⟩) (u.slots.set (slotAt u.slots 0) ⟨0 + u.slots.length, (u.slots.getD (slotAt u.slots 0) default).val⟩) = v at *
  have hv : v = withSlots (logged (withWord u ⟨1, r, 0⟩) ⟨0, 9, val, 1, fabValue (put1 u 0 ⟨1, k, val, 0, 10, 0, 0, 0, false, 0, 0⟩) 0⟩) (u.slots.set 0 ⟨(r : Int), 0⟩) := by
    rw [← hU, hpl _ hul, hg0, hul]
    simp
  have e4' : sStep (put1 (logged (withWord u ⟨1, r, 0⟩) ⟨0, 9, val, 1, fabValue (put1 u 0 ⟨1, k, val, 0, 10, 0, 0, 0, false, 0, 0⟩) 0⟩) 0 ⟨1, k, val, 0, 11, 0, 0, 0, false, 0, 0⟩) 0 = put1 v 0 ⟨1, k, val, 0, 2, 0, 0, 0, false, 0, 0⟩ := by
    rw [← hU]; exact e4
  have h5' : Sd v 0 ⟨1, k, val, 0, 2, 0, 0, 0, false, 0, 0⟩ := by rw [← hU]; exact h5
  have hvl : v.slots.length = r := by rw [hv]; show (u.slots.set 0 _).length = r; rw [List.length_set, hul]
  have hvw : v.word = ⟨1, r, 0⟩ := by rw [hv]; rfl
  have hpc1 : posCheck ⟨1, (r : Int), 0⟩ (r : Int) = true := by simp only [posCheck, within, Bool.and_eq_true, decide_eq_true_eq, len_w (show (0 : Int) ≤ 1 by decide) (show (1 : Int) ≤ r by omega)]; omega
  have hacc : wAccept v.word v.slots.length = (⟨1, r + 1, 0⟩, (r : Int), 1) := by
    rw [hvw, hvl]
    unfold wAccept
    rw [if_neg (by simp [wHalted, hpc1]), if_neg (show ¬ ((0 : Int) = 1) by decide), if_neg (by simp [posFull, len_w (show (0 : Int) ≤ 1 by decide) (show (1 : Int) ≤ r by omega)]; omega)]
  have e5 := sd_2 h5' rfl (by rw [hacc])
  have h6 := h5'.step e5 rfl rfl rfl
  -- writes
  have hpr : slotAt v.slots (r : Int) = 0 := by
    unfold slotAt
    rw [hvl]
    have := place_lap (p := 0) (room := r) (by decide) (by omega)
    rw [Int.zero_add] at this
    rw [this, show (0 : Int) = ((0 : Nat) : Int) from rfl, place_id (by omega)]; rfl
  have hvg : v.slots.getD 0 default = ⟨(r : Int), 0⟩ := by
    rw [hv]
    show (u.slots.set 0 _).getD 0 default = _
    rw [getD_set, if_pos ⟨rfl, by omega⟩]
  have hrd2 : slotReady v.slots (r : Int) = true := by
    simp only [slotReady, Bool.and_eq_true, decide_eq_true_eq]
    refine ⟨⟨by omega, h5'.fab.slot⟩, ?_⟩
    show (v.slots.getD (slotAt v.slots (r : Int)) default).stamp = r
    rw [hpr, hvg]
  have e6 := sd_3 h6 rfl (by show slotReady v.slots v.word.t = true; rw [hvw]; exact hrd2)
  have h7 := h6.step e6 rfl rfl rfl
  -- is let in
  have e7 := sd_4 (w := ⟨1, r + 1, 0⟩) (a := r) h7 rfl (by
    show wAccept v.word ((v.slots.set _ _).length : Nat) = _
    rw [List.length_set]; exact hacc)
  have h8 := h7.step e7 rfl (by unfold tTold setPc; split <;> rfl) (by unfold tTold setPc; split <;> rfl)
  have hve : v.empty.ln = [] := by rw [hv, hu]; rfl
  have e8 := sd_6 h8 rfl hve
  have h9 := h8.step e8 rfl (by unfold tTold setPc; split <;> rfl) (by unfold tTold setPc; split <;> rfl)
  have e9 := sd_9 h9 rfl
  have hrun := run_cons h2.is e2 (run_cons h3.is e3 (run_cons h4.is e4' (run_cons h5'.is e5 (run_cons h6.is e6 (run_cons h7.is e7 (run_cons h8.is e8 (run_cons h9.is e9 (sd_end (n := n) h9.lo (by exact h9.hi)))))))))
  have ht : tTold (setPc (setPc (setReg ⟨1, k, val, 0, 2, 0, 0, 0, false, 0, 0⟩ v.word.t) 3) 4) k 1 0 = ⟨1, k, val, 0, 4, v.word.t, 0, 0, false, 1, 0⟩ := by unfold tTold; rw [if_pos hk9]; rfl
  refine ⟨_, hrun, ?_, ?_, ?_, ?_, ?_⟩
  · show v.cfg = c; rw [hv, hu]; rfl
  · show (⟨1, (r : Int) + 1, 0⟩ : Word) = _
    rw [show ((1 + r : Nat) : Int) = (r : Int) + 1 from by omega]; rfl
  · show v.slots.set (slotAt v.slots v.word.t) ⟨v.word.t, val⟩ = _
    rw [hvw]
    show v.slots.set (slotAt v.slots (r : Int)) ⟨(r : Int), val⟩ = _
    rw [hpr, hv]
    show (u.slots.set 0 _).set 0 _ = _
    rw [List.set_set, hu]; rfl
  · show v.threads.set 0 (tBare (setPc (setPc (tTold (setPc (setPc (setReg ⟨1, k, val, 0, 2, 0, 0, 0, false, 0, 0⟩ v.word.t) 3) 4) k 1 0) 6) 9)) = _
    rw [ht, hv, hu]; rfl
  · show ((v.log ++ [_]).length) = _
    rw [hv, hu]
    show ((((List.range r).map _) ++ [_]) ++ [_]).length = _
    simp
end
end Go.Sak
namespace Go.Sak
open Go Go.RowKit
set_option linter.unusedVariables false
set_option linter.unusedSimpArgs false
section
variable {c : Config} {r : Nat} {k val : Int}
def vals0 (r : Nat) : List Int := (List.range r).map fun (i : Nat) => (i : Int)
theorem vals0_0 (h : 0 < r) : (vals0 r).getD 0 default = 0 := by simp [vals0, List.getD_eq_getElem?_getD, h]
theorem steps_of {s Z : State} {m : Nat} (h : sRun s 0 100 = (Z, m)) : sSteps s 0 100 = (Z, (m : Int)) := by
  unfold sSteps
  rw [show (min (100 : Int) 1000).toNat = 100 from rfl, h]
/-- What becomes of it. -/
def FullRes (c : Config) (r : Nat) (k val : Int) (Z : State) (m : Int) (vals : List Int) : Prop :=
  (c.pol = 1 → (me Z 0).st = 0 ∧ (me Z 0).res = 3 ∧ vals.getD 0 default = 0 ∧ m = 4) ∧
  (c.pol = 2 → (me Z 0).st = 0 ∧ (me Z 0).res = 1 ∧ vals.getD (r - 1) default = val ∧ m = 10 ∧ Z.log.length = r + 2) ∧
  (c.pol = 0 → k = 2 → (me Z 0).st = 0 ∧ (me Z 0).res = 2 ∧ m = 4) ∧
  (c.pol = 0 → k ≠ 2 → (me Z 0).res = 0 ∧ vals.getD 0 default = 0 ∧ ((c.wt = 3 ∨ c.wt = 2) → (me Z 0).st = 2 ∧ Z.full.ln.length = 1) ∧ (¬ (c.wt = 3 ∨ c.wt = 2) → (me Z 0).st = 1 ∧ m = 100))
theorem full_ok (h : confOk c = true) (hr : (r : Int) = confRoom c) (hk : k = 1 ∨ k = 2 ∨ k = 3) :
    ∃ Z m vals, sSteps (put1 (fillS c 0 r) 0 (t0 k val 0)) 0 100 = (Z, m) ∧ (Z.threads.length : Int) = c.th ∧ fabQueue Z = ⟨vals, confRoom c, c.pol, 0⟩ ∧ vals.length = r ∧ FullRes c r k val Z m vals := by
  have hrm := room_of h
  obtain ⟨u, hu, h2, hw, hrun⟩ := full_two (val := val) h hr hk 98
  have hsd := fill_sd (b := 0) (n := r) (id := 0) (v := val) h (by omega) (by omega) (by omega) hk
  have huc : u.cfg = c := by rw [hu]; rfl
  have hut : u.threads.length = c.th.toNat := by rw [hu]; exact fillT_len
  have hul : 0 < u.threads.length := by omega
  have hme : ∀ (w : State) (t : Thread), w.threads.length = c.th.toNat → me (put1 w 0 t) 0 = t := fun w t hwt => me_put (by decide) (by omega)
  have hfq : ∀ Z m, sRun (put1 (fillS c 0 r) 0 (t0 k val 0)) 0 100 = (Z, m) → Z.cfg = c → Z.word = ⟨0, r, 0⟩ → Z.slots = (fillS c 0 r).slots → fabQueue Z = ⟨vals0 r, confRoom c, c.pol, 0⟩ :=
    fun Z m e h1 h2 h3 => full_q h hr (run_fab hsd.fab e) h1 h2 h3
  have hv0 := vals0_0 (r := r) (by omega)
  have hvl : (vals0 r).length = r := by simp [vals0]
  have told : ∀ res : Int, sStep (put1 u 0 ⟨1, k, val, 0, 2, 0, 0, 0, false, 0, 0⟩) 0 = rEnds (put1 u 0 ⟨1, k, val, 0, 2, 0, 0, 0, false, 0, 0⟩) 0 res 9 →
      ∃ Z, sSteps (put1 (fillS c 0 r) 0 (t0 k val 0)) 0 100 = (Z, 4) ∧ (Z.threads.length : Int) = c.th ∧ fabQueue Z = ⟨vals0 r, confRoom c, c.pol, 0⟩ ∧ (me Z 0).st = 0 ∧ (me Z 0).res = res := by
    intro res e
    rw [full_told hu h2 hk e 96] at hrun
    refine ⟨_, steps_of hrun, ?_, hfq _ _ hrun (by exact huc) (by rw [hu]; rfl) (by rw [hu]; rfl), ?_, ?_⟩
    · show ((u.threads.set _ _).length : Int) = _; rw [List.length_set, hut]; omega
    · rw [hme _ _ (by exact hut)]; rfl
    · rw [hme _ _ (by exact hut)]; rfl
  have hcp : (put1 u 0 ⟨1, k, val, 0, 2, 0, 0, 0, false, 0, 0⟩).cfg = c := huc
  by_cases p1 : c.pol = 1
  · obtain ⟨Z, e1, e2, e3, e4, e5⟩ := told 3 (by rw [sd_2f h2 rfl hw]; unfold sFull; rw [hcp, if_pos p1])
    refine ⟨Z, 4, vals0 r, e1, e2, e3, hvl, fun _ => ⟨e4, e5, hv0, rfl⟩, ?_, ?_, ?_⟩ <;> (intro e; omega)
  · by_cases p2 : c.pol = 2
    · obtain ⟨Z, e1, z1, z2, z3, z4, z5⟩ := full_old h hr hk p2 hu h2 hw 90
      have hrun' : sRun (put1 (fillS c 0 r) 0 (t0 k val 0)) 0 100 = (Z, 10) := by rw [hrun]; rw [show 98 = 90 + 8 from rfl, e1]
      have hf := run_fab hsd.fab hrun'
      have hlen : (fillS c 0 r).slots.length = r := by show (fillSl (confRoom c).toNat 0 r).length = r; rw [fillSl_len]; omega
      have hth : (fillS c 0 r).threads.length = c.th.toNat := fillT_len
      have hm : me Z 0 = t9 k val 0 1 0 := by unfold me; rw [z4, getD_set, if_pos ⟨rfl, by rw [hth]; omega⟩]
      have hq := fQ (c := c) (s := Z) (h := 1) (n := r) (g := fun i => if i = r - 1 then val else ((1 + i : Nat) : Int)) hf z1 z2 (fun i hi => by
        rw [z3]
        have hll : ((fillS c 0 r).slots.set 0 ⟨(r : Int), val⟩).length = r := by rw [List.length_set, hlen]
        by_cases c1 : i = r - 1
        · rw [if_pos c1, show ((1 : Nat) : Int) + (i : Int) = (r : Int) from by omega]
          have hpr : slotAt ((fillS c 0 r).slots.set 0 ⟨(r : Int), val⟩) (r : Int) = 0 := by
            unfold slotAt
            rw [hll]
            have := place_lap (p := 0) (room := r) (by decide) (by omega)
            rw [Int.zero_add] at this
            rw [this, show (0 : Int) = ((0 : Nat) : Int) from rfl, place_id (by omega)]; rfl
          rw [hpr, getD_set, if_pos ⟨rfl, by omega⟩]
        · rw [if_neg c1, show ((1 : Nat) : Int) + (i : Int) = ((1 + i : Nat) : Int) from by omega, slotAt_id (by omega), getD_set, if_neg (by omega)]
          show ((fillSl (confRoom c).toNat 0 r).getD (1 + i) default).val = _
          rw [fillSl_get (by omega), if_pos (by omega)]
          show (0 : Int) + ((1 + i : Nat) : Int) = _
          omega)
      refine ⟨Z, 10, _, steps_of hrun', ?_, hq, by simp, ?_, ?_, ?_, ?_⟩
      · rw [z4, List.length_set, hth]; omega
      · intro e; omega
      · intro _
        refine ⟨by rw [hm]; rfl, by rw [hm]; rfl, ?_, rfl, z5⟩
        have : r - 1 < r := by omega
        simp [List.getD_eq_getElem?_getD, this]
      · intro e; omega
      · intro e; omega
    · have p0 : c.pol = 0 := by omega
      by_cases hk2 : k = 2
      · obtain ⟨Z, e1, e2, e3, e4, e5⟩ := told 2 (by rw [sd_2f h2 rfl hw]; unfold sFull; rw [hcp, if_neg p1, if_neg p2, me_put h2.lo h2.hi, if_pos hk2])
        refine ⟨Z, 4, vals0 r, e1, e2, e3, hvl, fun e => absurd e p1, fun e => absurd e p2, fun _ _ => ⟨e4, e5, rfl⟩, fun _ e => absurd hk2 e⟩
      · have hcw := h
        simp only [confOk, within, Bool.and_eq_true, decide_eq_true_eq] at hcw
        by_cases hwt : c.wt = 3 ∨ c.wt = 2
        · -- it parks
          obtain ⟨x, hx1, hx2, hx3⟩ : ∃ x : Nat, x ≤ 16 ∧ (∀ j : Nat, j < x → waitNext c (0 + j : Nat) ≠ 2) ∧ waitNext c (0 + x : Nat) = 2 := by
            rcases hwt with e | e
            · refine ⟨0, by omega, fun j hj => by omega, ?_⟩
              unfold waitNext; rw [if_neg (by simp [h]), if_neg (by omega), if_neg (by omega), if_pos e]
            · have hct : confTries c.wt = 8 := by unfold confTries; rw [if_pos e]
              rw [hct] at hcw
              refine ⟨(c.spin + c.yld).toNat, by omega, fun j hj => ?_, ?_⟩
              · unfold waitNext; rw [if_neg (by simp [h]), if_neg (by omega), if_neg (by omega), if_neg (by omega)]
                split
                · decide
                · rw [if_pos (by omega)]; decide
              · unfold waitNext; rw [if_neg (by simp [h]), if_neg (by omega), if_neg (by omega), if_neg (by omega), if_neg (by omega), if_neg (by omega)]
          obtain ⟨g1, g2⟩ := full_spin (c := c) huc hw p0 hk2 x 0 (by omega) hx2 h2
          have hfl : u.full.ln = [] := by rw [hu]; rfl
          have hpk := full_park huc hw p0 hk2 hx3 hfl g1 (98 - x - 4)
          have hh := g2 (98 - x)
          rw [show 98 - x + x = 98 from by omega] at hh
          rw [show (((0 : Nat) : Int)) = 0 from rfl] at hh
          rw [hh] at hrun
          rw [show 98 - x - 4 + 4 = 98 - x from by omega] at hpk
          rw [hpk] at hrun
          refine ⟨_, _, vals0 r, steps_of hrun, ?_, hfq _ _ hrun (by exact huc) (by rw [hu]; rfl) (by rw [hu]; rfl), hvl, fun e => absurd e p1, fun e => absurd e p2, fun _ e => absurd e hk2, fun _ _ => ⟨?_, hv0, fun _ => ⟨?_, rfl⟩, fun e => absurd hwt e⟩⟩
          · show ((u.threads.set _ _).length : Int) = _; rw [List.length_set, hut]; omega
          · rw [hme _ _ (by exact hut)]
          · rw [hme _ _ (by exact hut)]
        · -- it tries on
          have hno : ∀ j : Nat, waitNext c (0 + j : Nat) ≠ 2 := fun j => by
            unfold waitNext; rw [if_neg (by simp [h])]
            by_cases e : c.wt = 0
            · rw [if_pos e]; decide
            · rw [if_neg e, if_pos (by omega)]; decide
          obtain ⟨g1, g2⟩ := full_spin (c := c) huc hw p0 hk2 98 0 (by omega) (fun j _ => hno j) h2
          have hh := g2 0
          rw [show (((0 : Nat) : Int)) = 0 from rfl] at hh
          rw [show (98 : Nat) = 0 + 98 from rfl, hh] at hrun
          refine ⟨_, _, vals0 r, steps_of hrun, ?_, hfq _ _ hrun (by exact huc) (by show u.word = _; rw [hu]; rfl) (by show u.slots = _; rw [hu]; rfl), hvl, fun e => absurd e p1, fun e => absurd e p2, fun _ e => absurd e hk2, fun _ _ => ⟨?_, hv0, fun e => absurd e hwt, fun _ => ⟨?_, rfl⟩⟩⟩
          · show ((u.threads.set _ _).length : Int) = _; rw [List.length_set, hut]; omega
          · show (me (put1 u 0 _) 0).res = 0
            rw [hme _ _ hut]
          · show (me (put1 u 0 _) 0).st = 1
            rw [hme _ _ hut]
end
end Go.Sak
