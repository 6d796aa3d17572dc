/- Part S65 of the proofs about the program: Pz. Conditions: none. -/
import Derived.Test.YtojlofaafkdhgaaGreatS64
namespace Go.Sak
open Go Go.RowKit
set_option linter.unusedVariables false
set_option linter.unusedSimpArgs false

/-- A fabric out of which so many were received. -/
structure Out (c : Config) (n i : Nat) (s : State) : Prop where
  fab : Fab s
  cfg : s.cfg = c
  word : s.word = ⟨(i : Int), (n : Int), 0⟩
  slots : ∀ j : Nat, i ≤ j → j < n → s.slots.getD j default = ⟨(j : Int), 10 + j⟩
  recvs : s.recvs = []
  full : s.full.ln = []
  empty : s.empty.ln = []
  idle : (me s 0).st = 0
theorem out_len {c : Config} {n i : Nat} {s : State} (h : Out c n i s) : (s.slots.length : Int) = confRoom c ∧ (s.threads.length : Int) = c.th := by
  have := h.fab.len; have h2 := h.fab.thl
  rw [h.cfg] at this h2; exact ⟨this, h2⟩
theorem out_fill {c : Config} {n : Nat} (h : confOk c = true) (hn : (n : Int) ≤ confRoom c) : Out c n 0 (fillS c 10 n) := by
  have hr := room_of h
  refine ⟨fill_fab h hn, rfl, rfl, fun j _ hj => ?_, rfl, rfl, rfl, fill_idle (by decide) (by omega)⟩
  show (fillSl (confRoom c).toNat 10 n).getD j default = _
  rw [fillSl_get (by omega), if_pos hj]
theorem invoke_g {s : State} {id k : Int} (h : Fab s) (h0 : 0 ≤ id) (h1 : id < s.threads.length) (hi : (me s id).st = 0) (hk : k = 4 ∨ k = 5 ∨ k = 6) (hid : id = 0) : fabInvoke s id k 0 0 = (put1 s id (t0 k 0 0), 0) := by
  have hm : opMay s.cfg.th s.cfg.single id k = 0 := by
    have := h.thl
    unfold opMay
    rw [if_neg (by omega)]
    rcases hk with e | e | e <;> (subst e; simp [opCheck, opSide]; omega)
  have hc : opCheck k = true := by rcases hk with e | e | e <;> (subst e; decide)
  have hf : fabIs s id = true := by
    simp only [fabIs, Bool.and_eq_true, decide_eq_true_eq]; exact ⟨⟨fab_iff.2 h, h0⟩, h1⟩
  unfold fabInvoke
  rw [if_neg (by simp [fab_iff.2 h]), if_neg (by simp [hm]), if_pos hf]
  have ht : tInvoke (me s id) k 0 0 = (t0 k 0 0, 0) := by
    unfold tInvoke
    rw [if_neg (by simp [hi]), if_neg (by simp [hc]), if_neg (by simp [within])]
    simp [t0]
  rw [ht]
theorem out_gv {c : Config} {n i : Nat} {s : State} {k : Int} (hok : confOk c = true) (h : Out c n i s) (hk : k = 4 ∨ k = 5 ∨ k = 6) : Gv s 0 (t0 k 0 0) ∧ fabInvoke s 0 k 0 0 = (put1 s 0 (t0 k 0 0), 0) := by
  have hr := room_of hok
  have hl := out_len h
  exact ⟨⟨h.fab.put (t0_ok (by omega)), by decide, by omega, rfl, by rcases hk with e | e | e <;> (subst e; rfl)⟩, invoke_g h.fab (by decide) (by omega) h.idle hk rfl⟩
theorem out_pos {c : Config} {n i : Nat} {s : State} (hok : confOk c = true) (h : Out c n i s) (hi : i ≤ n) : posCheck s.word s.slots.length = true := by
  have := h.fab.word
  rw [← h.fab.len] at this; exact this
theorem out_take {c : Config} {n i : Nat} {s : State} (hok : confOk c = true) (h : Out c n i s) (hi : i < n) : wTake s.word s.slots.length = (⟨s.word.h + 1, s.word.t, s.word.m⟩, s.word.h, 1) := by
  have hp := out_pos hok h (by omega)
  unfold wTake
  rw [if_neg (by simp [wHalted, hp]; rw [h.word]; simp), if_pos (by rw [h.word, len_w (by omega) (by omega)]; omega)]
theorem out_none {c : Config} {n : Nat} {s : State} (hok : confOk c = true) (h : Out c n n s) : (wTake s.word s.slots.length).2.2 = 4 := by
  have hp := out_pos hok h (by omega)
  unfold wTake
  rw [if_neg (by simp [wHalted, hp]; rw [h.word]; simp), if_neg (by rw [h.word, len_w (by omega) (by omega)]; omega), if_neg (by rw [h.word]; simp)]
theorem gsteps_of {s Z : State} {m : Nat} (h : gRun s 0 100 = (Z, m)) : gSteps s 0 100 = (Z, (m : Int)) := by
  unfold gSteps
  rw [show (min (max (100 : Int) 0) 1000).toNat = 100 from rfl, h]
theorem grun_fab {s : State} {id : Int} {n : Nat} {Z : State} {k : Nat} (hf : Fab s) (h : gRun s id n = (Z, k)) : Fab Z := by
  have := g_check_run (s := s) (id := id) n
  rw [h] at this
  exact fab_iff.1 (this.trans (fab_iff.2 hf))
/-- One more is received. -/
theorem out_one {c : Config} {n i : Nat} {s : State} {k : Int} (hok : confOk c = true) (h : Out c n i s) (hi : i < n) (hn : (n : Int) ≤ confRoom c) (hk : k = 4 ∨ k = 5 ∨ k = 6) :
    ∃ Z, gSteps (put1 s 0 (t0 k 0 0)) 0 100 = (Z, 7) ∧ Out c n (i + 1) Z ∧ (Z.threads.getD 0 default).res = 1 ∧ (Z.threads.getD 0 default).got = 10 + i := by
  have hr := room_of hok
  obtain ⟨hl, hth⟩ := out_len h
  have hg := (out_gv hok h hk).1
  have hwh : s.word.h = (i : Int) := by rw [h.word]
  have hil : i < s.slots.length := by omega
  have hsa : slotAt s.slots s.word.h = i := by rw [hwh]; exact slotAt_id hil
  have hsi := h.slots i (Nat.le_refl _) hi
  have hrd : slotReady s.slots s.word.h = true := by
    simp only [slotReady, Bool.and_eq_true, decide_eq_true_eq]
    refine ⟨⟨by omega, h.fab.slot⟩, ?_⟩
    show (s.slots.getD (slotAt s.slots s.word.h) default).stamp = _
    rw [hsa, hsi, hwh]
  have hrun := glone (v := 10 + i) hg h.recvs h.full (out_take hok h hi) hrd (by omega) (by rw [hsa, hsi]) 93
  have hm : me (put1 (oneOut s 0 k (10 + i)) 0 (t9 k 0 0 1 (10 + i))) 0 = t9 k 0 0 1 (10 + i) := me_put (s := oneOut s 0 k (10 + i)) (by decide) (by show (0 : Int) < s.threads.length; omega)
  refine ⟨_, gsteps_of hrun, ⟨grun_fab hg.fab hrun, h.cfg, ?_, fun j hj1 hj2 => ?_, rfl, rfl, h.empty, by rw [hm]; rfl⟩, ?_, ?_⟩
  · show (⟨s.word.h + 1, s.word.t, s.word.m⟩ : Word) = _
    rw [h.word]; simp
  · show (s.slots.set (slotAt s.slots s.word.h) _).getD j default = _
    rw [hsa, getD_set, if_neg (by omega)]
    exact h.slots j (by omega) hj2
  · show (me (put1 (oneOut s 0 k (10 + i)) 0 (t9 k 0 0 1 (10 + i))) 0).res = 1
    rw [hm]; rfl
  · show (me (put1 (oneOut s 0 k (10 + i)) 0 (t9 k 0 0 1 (10 + i))) 0).got = _
    rw [hm]; rfl
section
variable {c : Config} {k : Int}
theorem gv_spin {u : State} (hu : u.cfg = c) (hw : (wTake u.word u.slots.length).2.2 = 4) (hk : k ≠ 5) : ∀ (m : Nat) (x : Nat), x + m ≤ 1000 → (∀ j : Nat, j < m → waitNext c (x + j : Nat) ≠ 2) → Gv u 0 ⟨1, k, 0, 0, 2, 0, 0, x, false, 0, 0⟩ →
    Gv u 0 ⟨1, k, 0, 0, 2, 0, 0, (x + m : Nat), false, 0, 0⟩ ∧ ∀ n : Nat, gRun (put1 u 0 ⟨1, k, 0, 0, 2, 0, 0, x, false, 0, 0⟩) 0 (n + m) = ((gRun (put1 u 0 ⟨1, k, 0, 0, 2, 0, 0, (x + m : Nat), false, 0, 0⟩) 0 n).1, (gRun (put1 u 0 ⟨1, k, 0, 0, 2, 0, 0, (x + m : Nat), false, 0, 0⟩) 0 n).2 + m)
  | 0, x, _, _, h => ⟨h, fun n => rfl⟩
  | m + 1, x, hx, hj, h => by
    have e : gStep (put1 u 0 ⟨1, k, 0, 0, 2, 0, 0, x, false, 0, 0⟩) 0 = put1 u 0 ⟨1, k, 0, 0, 2, 0, 0, ((x + 1 : Nat) : Int), false, 0, 0⟩ := by
      rw [gv_2v h rfl hw]
      have hcp : (put1 u 0 ⟨1, k, 0, 0, 2, 0, 0, (x : Int), false, 0, 0⟩).cfg = c := hu
      unfold gVain
      rw [hcp, me_put h.lo h.hi, if_neg hk, if_neg (by simp), if_neg (by exact hj 0 (by omega))]
      unfold rOn
      rw [me_put h.lo h.hi, put_put]
      have : min ((x : Int) + 1) 1099511627776 = ((x + 1 : Nat) : Int) := by omega
      simp only [setTries, this]
    have h1 := h.step e rfl rfl rfl
    obtain ⟨g1, g2⟩ := gv_spin hu hw hk m (x + 1) (by omega) (fun j hjm => by have := hj (j + 1) (by omega); rwa [show x + (j + 1) = x + 1 + j from by omega] at this) h1
    rw [show x + 1 + m = x + (m + 1) from by omega] at g1 g2
    refine ⟨g1, fun n => ?_⟩
    have g3 := g2 n
    rw [show n + (m + 1) = n + m + 1 from rfl, grun_cons (m := (gRun (put1 u 0 ⟨1, k, 0, 0, 2, 0, 0, (x + (m + 1) : Nat), false, 0, 0⟩) 0 n).2 + m) h.is e (by rw [g3])]
    rfl
theorem gv_park {u : State} {x : Nat} (hu : u.cfg = c) (hw : (wTake u.word u.slots.length).2.2 = 4) (hk : k ≠ 5) (hj : waitNext c x = 2) (hf : u.empty.ln = []) (h : Gv u 0 ⟨1, k, 0, 0, 2, 0, 0, x, false, 0, 0⟩) (n : Nat) :
    gRun (put1 u 0 ⟨1, k, 0, 0, 2, 0, 0, x, false, 0, 0⟩) 0 (n + 4) = (put1 (withEmpty u ⟨u.empty.ep, [0]⟩) 0 ⟨2, k, 0, 0, 2, 0, u.empty.ep, 0, false, 0, 0⟩, 4) := by
  have e : gStep (put1 u 0 ⟨1, k, 0, 0, 2, 0, 0, x, false, 0, 0⟩) 0 = put1 u 0 ⟨1, k, 0, 0, 5, 0, 0, x, false, 0, 0⟩ := by
    rw [gv_2v h rfl hw]
    have hcp : (put1 u 0 ⟨1, k, 0, 0, 2, 0, 0, (x : Int), false, 0, 0⟩).cfg = c := hu
    unfold gVain
    rw [hcp, me_put h.lo h.hi, if_neg hk, if_neg (by simp), if_pos (by exact hj)]
    unfold rAt
    rw [me_put h.lo h.hi, put_put]; rfl
  have h1 := h.step e rfl rfl rfl
  have e1 := gv_5 h1 rfl
  have h2 := h1.step e1 rfl rfl rfl
  have e2 := gv_7 h2 rfl hw rfl
  have h3 := h2.step e2 rfl rfl rfl
  have e3 := gv_8 h3 rfl rfl hf rfl
  exact grun_cons h.is e (grun_cons h1.is e1 (grun_cons h2.is e2 (grun_cons h3.is e3 (gv_stop (n := n) h3.lo (by exact h3.hi) (fun e => absurd (show (2 : Int) = 1 from e) (by decide))))))
end
theorem gv_rend {u : State} {id : Int} {t : Thread} {r : Int} (h : Gv u id t) (hk : t.kind ≠ 9) : rEnds (put1 u id t) id r 9 = put1 (logged u ⟨id, t.kind, t.val, r, 0⟩) id (setPc (tTold t t.kind r 0) 9) := by
  unfold rEnds
  rw [me_put h.lo h.hi, sd_tell h.rn h.hi]
/-- What becomes of who receives where there is nothing. -/
def EndRes (c : Config) (k : Int) (Z : State) (m : Int) : Prop :=
  (k = 5 → (Z.threads.getD 0 default).res = 4 ∧ m = 4) ∧
  (k ≠ 5 → (Z.threads.getD 0 default).res = 0 ∧ ((c.wt = 3 ∨ c.wt = 2) → (Z.threads.getD 0 default).st = 2 ∧ Z.empty.ln.length = 1) ∧ (¬ (c.wt = 3 ∨ c.wt = 2) → m = 100))
theorem out_end {c : Config} {n : Nat} {s : State} {k : Int} (h : confOk c = true) (ho : Out c n n s) (hk : k = 4 ∨ k = 5 ∨ k = 6) :
    ∃ Z m, gSteps (put1 s 0 (t0 k 0 0)) 0 100 = (Z, m) ∧ (Z.threads.length : Int) = c.th ∧ EndRes c k Z m := by
  have hrm := room_of h
  obtain ⟨hsl, hth⟩ := out_len ho
  have h0 := (out_gv h ho hk).1
  have hw0 := out_none h ho
  obtain ⟨hl1, hl2, hl3⟩ := line_one h0.lo h0.id16
  have e0 := gv_0 h0 rfl
  rw [ho.recvs, hl1] at e0
  have h1 := h0.step e0 rfl rfl rfl
  have e1 := gv_1 h1 rfl hl2
  have h2' := h1.step e1 rfl rfl rfl
  obtain ⟨u, hu⟩ : ∃ u, u = withRecvs s [0] := ⟨_, rfl⟩
  rw [← hu] at h2' e1 h1 e0
  have h2 : Gv u 0 ⟨1, k, 0, 0, 2, 0, 0, 0, false, 0, 0⟩ := h2'
  have hw : (wTake u.word u.slots.length).2.2 = 4 := by rw [hu]; exact hw0
  have huc : u.cfg = c := by rw [hu]; exact ho.cfg
  have hut : (u.threads.length : Int) = c.th := by rw [hu]; exact hth
  have hue : u.empty.ln = [] := by rw [hu]; exact ho.empty
  have hul : (0 : Int) < u.threads.length := by omega
  have run2 : ∀ (m : Nat) (Z : State) (j : Nat), gRun (put1 u 0 ⟨1, k, 0, 0, 2, 0, 0, 0, false, 0, 0⟩) 0 m = (Z, j) → gRun (put1 s 0 (t0 k 0 0)) 0 (m + 2) = (Z, j + 2) :=
    fun m Z j e => grun_cons h0.is e0 (grun_cons h1.is e1 e)
  have hcp : (put1 u 0 ⟨1, k, 0, 0, 2, 0, 0, 0, false, 0, 0⟩).cfg = c := huc
  by_cases hk5 : k = 5
  · have hk9 : k ≠ 9 := by omega
    have e2 : gStep (put1 u 0 ⟨1, k, 0, 0, 2, 0, 0, 0, false, 0, 0⟩) 0 = rEnds (put1 u 0 ⟨1, k, 0, 0, 2, 0, 0, 0, false, 0, 0⟩) 0 4 9 := by
      rw [gv_2v h2 rfl hw]
      unfold gVain
      rw [me_put h2.lo h2.hi, if_pos hk5]
    rw [gv_rend h2 hk9] at e2
    have ht : tTold ⟨1, k, 0, 0, 2, 0, 0, 0, false, 0, 0⟩ k 4 0 = ⟨1, k, 0, 0, 2, 0, 0, 0, false, 4, 0⟩ := by unfold tTold; rw [if_pos hk9]
    rw [ht] at e2
    have h3 := h2.step e2 rfl rfl rfl
    have e3 := gv_9 h3 rfl
    have hrun := run2 98 _ _ (grun_cons h2.is e2 (grun_cons h3.is e3 (gv_stop (n := 96) h3.lo (by exact h3.hi) (fun e => absurd (show (0 : Int) = 1 from e) (by decide)))))
    refine ⟨_, _, gsteps_of hrun, ?_, fun _ => ⟨?_, rfl⟩, fun e => absurd hk5 e⟩
    · show ((u.threads.set _ _).length : Int) = _; rw [List.length_set, hut]
    · show ((u.threads.set 0 _).getD 0 default).res = 4
      rw [getD_set, if_pos ⟨rfl, by omega⟩]; rfl
  · have hcw := h
    simp only [confOk, within, Bool.and_eq_true, decide_eq_true_eq] at hcw
    by_cases hwt : c.wt = 3 ∨ c.wt = 2
    · obtain ⟨x, hx1, hx2, hx3⟩ : ∃ x : Nat, x ≤ 16 ∧ (∀ j : Nat, j < x → waitNext c (0 + j : Nat) ≠ 2) ∧ waitNext c (0 + x : Nat) = 2 := by
        rcases hwt with e | e
        · refine ⟨0, by omega, fun j hj => by omega, ?_⟩
          unfold waitNext; rw [if_neg (by simp [h]), if_neg (by omega), if_neg (by omega), if_pos e]
        · have hct : confTries c.wt = 8 := by unfold confTries; rw [if_pos e]
          rw [hct] at hcw
          refine ⟨(c.spin + c.yld).toNat, by omega, fun j hj => ?_, ?_⟩
          · unfold waitNext; rw [if_neg (by simp [h]), if_neg (by omega), if_neg (by omega), if_neg (by omega)]
            split
            · decide
            · rw [if_pos (by omega)]; decide
          · unfold waitNext; rw [if_neg (by simp [h]), if_neg (by omega), if_neg (by omega), if_neg (by omega), if_neg (by omega), if_neg (by omega)]
      obtain ⟨g1, g2⟩ := gv_spin (c := c) huc hw hk5 x 0 (by omega) hx2 h2
      have hpk := gv_park huc hw hk5 hx3 hue g1 (98 - x - 4)
      have hh := g2 (98 - x)
      rw [show 98 - x + x = 98 from by omega] at hh
      rw [show (((0 : Nat) : Int)) = 0 from rfl] at hh
      rw [show 98 - x - 4 + 4 = 98 - x from by omega] at hpk
      rw [hpk] at hh
      have hrun := run2 98 _ _ hh
      refine ⟨_, _, gsteps_of hrun, ?_, fun e => absurd e hk5, fun _ => ⟨?_, fun _ => ⟨?_, rfl⟩, fun e => absurd hwt e⟩⟩
      · show ((u.threads.set _ _).length : Int) = _; rw [List.length_set, hut]
      · show ((u.threads.set 0 _).getD 0 default).res = 0
        rw [getD_set, if_pos ⟨rfl, by omega⟩]
      · show ((u.threads.set 0 _).getD 0 default).st = 2
        rw [getD_set, if_pos ⟨rfl, by omega⟩]
    · have hno : ∀ j : Nat, waitNext c (0 + j : Nat) ≠ 2 := fun j => by
        unfold waitNext; rw [if_neg (by simp [h])]
        by_cases e : c.wt = 0
        · rw [if_pos e]; decide
        · rw [if_neg e, if_pos (by omega)]; decide
      obtain ⟨g1, g2⟩ := gv_spin (c := c) huc hw hk5 98 0 (by omega) (fun j _ => hno j) h2
      have hh := g2 0
      rw [show (((0 : Nat) : Int)) = 0 from rfl] at hh
      have hrun := run2 98 _ _ hh
      refine ⟨_, _, gsteps_of hrun, ?_, fun e => absurd e hk5, fun _ => ⟨?_, fun e => absurd e hwt, fun _ => rfl⟩⟩
      · show ((u.threads.set _ _).length : Int) = _; rw [List.length_set, hut]
      · show ((u.threads.set 0 _).getD 0 default).res = 0
        rw [getD_set, if_pos ⟨rfl, by omega⟩]
end Go.Sak
