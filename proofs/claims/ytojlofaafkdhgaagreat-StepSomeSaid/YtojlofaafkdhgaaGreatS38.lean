/- Part S38 of the proofs about the program: Xs, Ps. Conditions: none. -/
import Derived.Test.YtojlofaafkdhgaaGreatS41
namespace Go.Sak
open Go Go.RowKit
set_option linter.unusedVariables false
set_option linter.unusedSimpArgs false

def cMode (k : Int) : Int := if k = 7 then 1 else if k = 8 then 2 else 0
def wakeAll (s : State) (l : List Int) : State := l.foldl fabWake s
def cShut (s : State) (id : Int) : State := rTell (withWord s (wClose s.word (cMode (me s id).kind))) id (me s id).kind 1 0 1
def cFull (s : State) (id : Int) : State := rAt (wakeAll (withFull s (vNotifyAll s.full).1) (vNotifyAll s.full).2) id 2
def cEmpty (s : State) (id : Int) : State :=
  let u := wakeAll (withEmpty s (vNotifyAll s.empty).1) (vNotifyAll s.empty).2
  put1 u id (tDone (me u id)).1
def cIs (s : State) (id : Int) : Bool := fabIs s id && decide (tRuns (me s id) = 0) && decide (opSide (me s id).kind = 3)
def cStep (s : State) (id : Int) : State := if ¬ cIs s id then s else if (me s id).pc = 0 then cShut s id else if (me s id).pc = 1 then cFull s id else cEmpty s id
def pSide (s : State) (id : Int) : State := if opSide (me s id).kind = 1 then sStep s id else if opSide (me s id).kind = 2 then gStep s id else cStep s id
def pPick (s : State) (id : Int) : State × Int :=
  if ¬ fabCheck s then (s, 20) else if id < 0 ∨ id ≥ s.threads.length then (s, 123) else if tRuns (me s id) ≠ 0 then (s, tRuns (me s id)) else (pSide s id, 0)
def pSome1 (a : State × Int) (id : Int) : State × Int := if (pPick a.1 id).2 = 0 then ((pPick a.1 id).1, a.2 + 1) else a
def pSome (s : State) (l : List Int) : State × Int := l.foldl pSome1 (s, 0)
def pActive (s : State) : List Int := if ¬ fabCheck s then [] else (List.range s.threads.length).filterMap fun i => if tRuns (s.threads.getD i default) = 0 then some (i : Int) else none
def pQuiet (s : State) : Bool := decide ((pActive s).length = 0)
def pAll (s : State) : List Int := (List.range s.threads.length).map fun (i : Nat) => (i : Int)
def pRound (l : List Int) : Nat → State → State × Nat := nRun (fun s => !pQuiet s) (fun s => (pSome s l).1)
def pRounds (s : State) (n : Int) : State × Int := ((pRound (pAll s) (min (max n 0) 200).toNat s).1, ((pRound (pAll s) (min (max n 0) 200).toNat s).2 : Int))
end Go.Sak
namespace Go.Sak
open Go Go.RowKit
set_option linter.unusedVariables false
set_option linter.unusedSimpArgs false

def Wok (s a : State) (id : Int) : Prop := a.threads.length = s.threads.length ∧ ∀ i : Nat, (i : Int) ≠ id → a.threads.getD i default = s.threads.getD i default ∨ ((s.threads.getD i default).st = 2 ∧ a.threads.getD i default = run1 (s.threads.getD i default))
theorem wok_of_th {s a : State} {id : Int} (h : Th s a id) : Wok s a id := by
  obtain ⟨h1, j, h2⟩ := h
  refine ⟨h1, fun i hi => ?_⟩
  rcases h2 i hi with h3 | ⟨_, h3⟩
  · exact .inl h3
  · exact .inr h3
theorem wake_len' {s : State} {j : Int} : (fabWake s j).threads.length = s.threads.length := by unfold fabWake; split <;> simp [put1]
theorem wake_wok {s : State} {j id : Int} : Wok s (fabWake s j) id := by
  refine ⟨wake_len', fun i hi => ?_⟩
  unfold fabWake; split
  · simp only [put1, me]
    rw [getD_set]; split
    · rename_i hc
      obtain ⟨rfl, hl⟩ := hc
      unfold tWake; split
      · rename_i h2; exact .inr ⟨h2, rfl⟩
      · exact .inl rfl
    · exact .inl rfl
  · exact .inl rfl
theorem Wok.trans {a b c : State} {id : Int} (h : Wok a b id) (k : Wok b c id) : Wok a c id := by
  refine ⟨k.1.trans h.1, fun i hi => ?_⟩
  rcases h.2 i hi with h1 | ⟨h1, h2⟩ <;> rcases k.2 i hi with k1 | ⟨k1, k2⟩
  · exact .inl (k1.trans h1)
  · rw [h1] at k1 k2; exact .inr ⟨k1, k2⟩
  · exact .inr ⟨h1, k1.trans h2⟩
  · rw [h2] at k1; cases k1
theorem wakeAll_wok {id : Int} : ∀ (l : List Int) (s : State), Wok s (wakeAll s l) id
  | [], s => ⟨rfl, fun _ _ => .inl rfl⟩
  | j :: l, s => (wake_wok (j := j)).trans (wakeAll_wok l (fabWake s j))
theorem wakeAll_things {s : State} : ∀ (l : List Int) (u : State), things s (wakeAll u l) = things s u
  | [], u => rfl
  | j :: l, u => (wakeAll_things l (fabWake u j)).trans things_wake
theorem wakeAll_rn {id : Int} : ∀ (l : List Int) (u : State), Rn u id → Rn (wakeAll u l) id
  | [], u, h => h
  | j :: l, u, h => wakeAll_rn l (fabWake u j) h.wake
theorem wp_close {w : Word} {m room : Int} (h : posCheck w room = true) : posCheck (wClose w m) room = true := by
  unfold wClose; split
  · simp only [posCheck, within, Bool.and_eq_true, decide_eq_true_eq] at h ⊢
    have hl : posLen ⟨w.h, w.t, if w.m < m then m else w.m⟩ ≤ room := by
      simp only [posLen] at h ⊢
      split <;> (try split) <;> omega
    split <;> (split at hl <;> omega)
  · exact h
theorem va_ok {e : Event} {n : Int} (h : vCheck e = true) : vCheck (vNotifyAll e).1 = true ∧ amongOk n (vNotifyAll e).1.ln = true := by
  have h' := vc_iff.1 h
  unfold vNotifyAll
  rw [if_neg (by simp [h])]
  refine ⟨vc_iff.2 ⟨?_, ?_, ?_⟩, ?_⟩
  · simp only []; omega
  · simp only []; omega
  · rfl
  · rfl
theorem c_stays {s : State} {id : Int} (h : Fab s) : Fab (cStep s id) := by
  unfold cStep
  split
  · exact h
  · rename_i hI
    simp only [Classical.not_not, cIs, Bool.and_eq_true, decide_eq_true_eq] at hI
    have hR : Rn s id := rn_of hI.1.1 hI.1.2
    split
    · exact ((hR.wd (wp_close h.word)).rtell (by decide) (by decide) (by decide) (by decide)).fab
    · split
      · have hn := va_ok (n := s.cfg.th) h.full
        exact ((wakeAll_rn _ _ (hR.fu hn.2 hn.1)).at (by decide) (by decide)).fab
      · have hn := va_ok (n := s.cfg.th) h.empty
        have hu := wakeAll_rn (vNotifyAll s.empty).2 _ (hR.em hn.2 hn.1)
        exact hu.fab.put (tc_done hu.tc)
theorem upd_tell {s u : State} {id k r g pc : Int} : things s (rTell u id k r g pc) = things s u := by
  unfold rTell fabTell rAt; split <;> rfl
theorem c_things {s : State} {id : Int} : things s (cStep s id) ≤ 1 := by
  unfold cStep
  split
  · exact upd_things (upd_refl s)
  · split
    · unfold cShut; rw [upd_tell]; exact upd_things (upd_word s _)
    · split
      · unfold cFull rAt; rw [things_put, wakeAll_things]; exact upd_things (upd_full s _)
      · unfold cEmpty; rw [things_put, wakeAll_things]; exact upd_things (upd_empty s _)
theorem put_wok {s : State} {id : Int} {t : Thread} (h0 : 0 ≤ id) : Wok s (put1 s id t) id := by
  refine ⟨by simp [put1], fun i hi => .inl ?_⟩
  simp only [put1]; rw [getD_set, if_neg (by omega)]
theorem tell_wok {s : State} {id k r g pc : Int} (h0 : 0 ≤ id) : Wok s (rTell s id k r g pc) id := by
  unfold rTell fabTell; split
  · exact (show Wok s (put1 s id (tTold (me s id) k r g)) id from put_wok h0).trans (show Wok _ (put1 (logged (put1 s id (tTold (me s id) k r g)) _) id _) id from (put_wok (s := put1 s id (tTold (me s id) k r g)) h0))
  · exact put_wok h0
theorem c_wok {s : State} {id : Int} : Wok s (cStep s id) id := by
  unfold cStep
  split
  · exact ⟨rfl, fun _ _ => .inl rfl⟩
  · rename_i hI
    simp only [Classical.not_not, cIs, fabIs, Bool.and_eq_true, decide_eq_true_eq] at hI
    have h0 : 0 ≤ id := hI.1.1.1.2
    split
    · exact (show Wok s _ id from tell_wok (s := withWord s (wClose s.word (cMode (me s id).kind))) h0)
    · split
      · exact (show Wok s _ id from (wakeAll_wok _ (withFull s (vNotifyAll s.full).1)).trans (put_wok h0))
      · exact (show Wok s _ id from (wakeAll_wok _ (withEmpty s (vNotifyAll s.empty).1)).trans (put_wok h0))
theorem s_wok {s : State} {id : Int} (h0 : 0 ≤ id) : Wok s (sStep s id) id := wok_of_th (nf_th s_nf h0)
theorem g_wok {s : State} {id : Int} (h0 : 0 ≤ id) : Wok s (gStep s id) id := wok_of_th (nf_th g_nf h0)

theorem p_wok {s : State} {id : Int} (h0 : 0 ≤ id) : Wok s (pSide s id) id := by
  unfold pSide; split
  · exact s_wok h0
  · split
    · exact g_wok h0
    · exact c_wok
theorem p_err {s : State} {id : Int} (h : (pPick s id).2 ≠ 0) : (pPick s id).1 = s := by
  unfold pPick at h ⊢; split
  · rfl
  · split
    · rfl
    · split
      · rfl
      · rename_i h1 h2 h3
        rw [if_neg h1, if_neg h2, if_neg h3] at h
        exact absurd rfl h
theorem p_ok {s : State} {id : Int} : (pPick s id).2 = 0 ↔ (fabIs s id = true ∧ tRuns (me s id) = 0) := by
  simp only [fabIs, Bool.and_eq_true, decide_eq_true_eq]
  unfold pPick; split
  · rename_i h; simp only [show ((20 : Int) = 0) = False from by simp, false_iff]; rintro ⟨⟨⟨h1, _⟩, _⟩, _⟩; exact h h1
  · rename_i h; split
    · simp only [show ((123 : Int) = 0) = False from by simp, false_iff]; omega
    · split
      · rename_i h3; constructor
        · intro e; exact absurd e h3
        · rintro ⟨_, e⟩; exact absurd e h3
      · rename_i h2 h3
        simp only [Classical.not_not] at h h3
        exact ⟨fun _ => ⟨⟨⟨h, by omega⟩, by omega⟩, h3⟩, fun _ => rfl⟩
theorem p_step {s : State} {id : Int} (h : (pPick s id).2 = 0) : (pPick s id).1 = pSide s id := by
  have := p_ok.1 h
  simp only [fabIs, Bool.and_eq_true, decide_eq_true_eq] at this
  unfold pPick
  rw [if_neg (by simp [this.1.1.1]), if_neg (by omega), if_neg (by simp [this.2])]
theorem p_side_stays {s : State} {id : Int} (h : Fab s) : Fab (pSide s id) := by
  unfold pSide; split
  · exact s_stays h
  · split
    · exact g_stays h
    · exact c_stays h
theorem p_stays {s : State} {id : Int} (h : Fab s) : Fab (pPick s id).1 := by
  by_cases e : (pPick s id).2 = 0
  · rw [p_step e]; exact p_side_stays h
  · rw [p_err e]; exact h
theorem p_things {s : State} {id : Int} : things s (pPick s id).1 ≤ 1 := by
  by_cases e : (pPick s id).2 = 0
  · rw [p_step e]; unfold pSide; split
    · exact nf_things s_nf
    · split
      · exact nf_things g_nf
      · exact c_things
  · rw [p_err e]; exact upd_things (upd_refl s)
theorem pSome_acc (l : List Int) : ∀ (s : State) (n : Int), l.foldl pSome1 (s, n) = ((l.foldl pSome1 (s, 0)).1, n + (l.foldl pSome1 (s, 0)).2) := by
  induction l with
  | nil => intro s n; simp
  | cons x l ih =>
    intro s n
    simp only [List.foldl_cons]
    by_cases h : (pPick s x).2 = 0
    · rw [show pSome1 (s, n) x = ((pPick s x).1, n + 1) from if_pos h, show pSome1 (s, 0) x = ((pPick s x).1, 0 + 1) from if_pos h, ih _ (n + 1), ih _ (0 + 1)]
      simp only [Prod.mk.injEq, true_and]; omega
    · rw [show pSome1 (s, n) x = (s, n) from if_neg h, show pSome1 (s, 0) x = (s, 0) from if_neg h, ih s n]
theorem pSome_app (s : State) (a b : List Int) : pSome s (a ++ b) = ((pSome (pSome s a).1 b).1, (pSome s a).2 + (pSome (pSome s a).1 b).2) := by
  unfold pSome
  rw [List.foldl_append, ← pSome_acc b (a.foldl pSome1 (s, 0)).1 (a.foldl pSome1 (s, 0)).2]
theorem pSome_in (l : List Int) : ∀ (s : State), 0 ≤ (pSome s l).2 ∧ (pSome s l).2 ≤ l.length := by
  induction l with
  | nil => intro s; simp [pSome]
  | cons x l ih =>
    intro s
    have : pSome s (x :: l) = pSome s ([x] ++ l) := rfl
    rw [this, pSome_app]
    have h1 := ih (pSome s [x]).1
    have h2 : 0 ≤ (pSome s [x]).2 ∧ (pSome s [x]).2 ≤ 1 := by
      simp only [pSome, List.foldl_cons, List.foldl_nil, pSome1]; split <;> simp
    simp only [List.length_cons]; omega
theorem pActive_mem {s : State} {id : Int} (h : Fab s) : id ∈ pActive s ↔ (pPick s id).2 = 0 := by
  rw [p_ok]
  unfold pActive
  rw [if_neg (by simp [fab_iff.2 h])]
  simp only [List.mem_filterMap, List.mem_range, fabIs, Bool.and_eq_true, decide_eq_true_eq, fab_iff.2 h, true_and]
  constructor
  · rintro ⟨i, hi, h2⟩
    split at h2
    · rename_i h3
      obtain rfl := Option.some.inj h2
      exact ⟨⟨by omega, by omega⟩, h3⟩
    · cases h2
  · rintro ⟨⟨h1, h2⟩, h3⟩
    refine ⟨id.toNat, by omega, ?_⟩
    unfold me at h3
    rw [if_pos h3]; congr 1; omega
theorem wok_idle {s a : State} {id : Int} (h : Wok s a id) (i : Nat) (hi : (i : Int) ≠ id) : ((s.threads.getD i default).st = 0) = ((a.threads.getD i default).st = 0) := by
  rcases h.2 i hi with e | ⟨e1, e2⟩
  · rw [e]
  · rw [e2, e1]; simp [run1]
theorem pick_wok {s : State} {id : Int} : Wok s (pPick s id).1 id := by
  by_cases e : (pPick s id).2 = 0
  · rw [p_step e]
    have := (p_ok.1 e).1
    simp only [fabIs, Bool.and_eq_true, decide_eq_true_eq] at this
    exact p_wok this.1.2
  · rw [p_err e]; exact ⟨rfl, fun _ _ => .inl rfl⟩
theorem some_none {l : List Int} {s : State} (h : ∀ x, x ∈ l → (pPick s x).2 ≠ 0) : pSome s l = (s, 0) := by
  induction l with
  | nil => rfl
  | cons x l ih =>
    show l.foldl pSome1 (pSome1 (s, 0) x) = (s, 0)
    rw [show pSome1 (s, 0) x = (s, 0) from if_neg (h x (by simp))]
    exact ih fun y hy => h y (by simp [hy])
theorem round_one {s : State} {k : Int} (hf : Fab s) (hl : pActive s = [k]) (hb : ∀ i : Nat, i < s.threads.length → (i : Int) ≠ k → (pPick s k).1.threads.getD i default = s.threads.getD i default) : (pSome s (pAll s)).1 = (pPick s k).1 := by
  have hk : (pPick s k).2 = 0 := (pActive_mem hf).1 (by rw [hl]; simp)
  have hk2 := p_ok.1 hk
  simp only [fabIs, Bool.and_eq_true, decide_eq_true_eq] at hk2
  have hother : ∀ x : Int, x ≠ k → (pPick s x).2 ≠ 0 := fun x hx e => by
    have := (pActive_mem hf).2 e
    rw [hl] at this; simp at this; exact hx this
  have hs : Fab (pPick s k).1 := p_stays hf
  have hlen := (pick_wok (s := s) (id := k)).1
  have hsplit : pAll s = (List.range k.toNat).map (fun (i : Nat) => (i : Int)) ++ (k :: ((List.range (s.threads.length - k.toNat - 1)).map fun (i : Nat) => ((i + k.toNat + 1 : Nat) : Int))) := by
    unfold pAll
    refine List.ext_getElem (by simp; omega) fun i h1 h2 => ?_
    simp only [List.getElem_map, List.getElem_range]
    by_cases c : i < k.toNat
    · rw [List.getElem_append_left (by simpa using c)]; simp
    · rw [List.getElem_append_right (by simp; omega)]
      simp only [List.length_map, List.length_range]
      by_cases c2 : i = k.toNat
      · subst c2; simp; omega
      · rw [List.getElem_cons, dif_neg (by omega)]
        simp only [List.getElem_map, List.getElem_range]; omega
  have e0 : pSome s ((List.range k.toNat).map fun (i : Nat) => (i : Int)) = (s, 0) := some_none (by
    intro x hx
    simp only [List.mem_map, List.mem_range] at hx
    obtain ⟨i, hi, rfl⟩ := hx
    exact hother _ (by omega))
  rw [hsplit, pSome_app, e0]
  show (pSome s (k :: _)).1 = _
  rw [show ∀ l, pSome s (k :: l) = pSome s ([k] ++ l) from fun l => rfl, pSome_app]
  have h1 : (pSome s [k]).1 = (pPick s k).1 := by
    show (pSome1 (s, 0) k).1 = _
    unfold pSome1; rw [if_pos hk]
  show (pSome (pSome s [k]).1 _).1 = _
  rw [h1, some_none]
  intro x hx e
  simp only [List.mem_map, List.mem_range] at hx
  obtain ⟨i, hi, rfl⟩ := hx
  have := p_ok.1 e
  refine hother ((i + k.toNat + 1 : Nat) : Int) (by omega) (p_ok.2 ⟨?_, ?_⟩)
  · simp only [fabIs, Bool.and_eq_true, decide_eq_true_eq]
    exact ⟨⟨hk2.1.1.1, by omega⟩, by omega⟩
  · have h2 := this.2
    unfold me at h2 ⊢
    rw [show ((i + k.toNat + 1 : Nat) : Int).toNat = i + k.toNat + 1 from rfl] at h2 ⊢
    rw [hb _ (by omega) (by omega)] at h2
    exact h2
end Go.Sak
