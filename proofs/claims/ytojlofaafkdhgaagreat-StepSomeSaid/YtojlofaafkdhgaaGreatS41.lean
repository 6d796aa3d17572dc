/- Part S41 of the proofs about the program: Xr, Pr. Conditions: none. -/
import Derived.Test.YtojlofaafkdhgaaGreatS03
import Derived.Test.YtojlofaafkdhgaaGreatS40
namespace Go.Sak
open Go Go.RowKit
set_option linter.unusedVariables false
set_option linter.unusedSimpArgs false

def setGot (t : Thread) (got : Int) : Thread := ⟨t.st, t.kind, t.val, t.untl, t.pc, t.reg, t.seen, t.tries, t.late, t.res, got⟩
def gEnter (s : State) (id : Int) : State := rAt (withRecvs s (lEnter s.recvs id).1) id 1
def gFirst (s : State) (id : Int) : State := if lPlace s.recvs id = 0 then rAt s id 2 else if (me s id).late then rEnds s id 5 9 else rOn s id
def gVain (s : State) (id : Int) : State :=
  if (me s id).kind = 5 then rEnds s id 4 9 else if (me s id).late then rEnds s id 5 9 else if waitNext s.cfg (me s id).tries = 2 then rAt s id 5 else rOn s id
def gLook (s : State) (id : Int) : State :=
  if (wSees s.word s.slots.length).2 = 1 then rAt s id 3 else if (wSees s.word s.slots.length).2 = 4 then gVain s id else rEnds s id (wSees s.word s.slots.length).2 9
def gTake (s : State) (id : Int) : State :=
  let r := wTake s.word s.slots.length
  if r.2.2 = 1 then rTell (put1 (withWord s r.1) id (setReg (me s id) r.2.1)) id (me s id).kind 1 (fabValue s r.2.1) 4 else if r.2.2 = 4 then rAt s id 2 else rEnds s id r.2.2 9
def gRead (s : State) (id : Int) : State :=
  rAt (withSlots (put1 s id (setGot (me s id) (slotRead s.slots (me s id).reg).1)) (slotRelease s.slots (me s id).reg).1) id 6
def gPrepare (s : State) (id : Int) : State := rAt (put1 s id (setSeen (me s id) (vPrepare s.empty))) id 7
def gNotify (s : State) (id : Int) : State :=
  let r := vNotify s.full
  rAt (if r.2.2 then fabWake (withFull s r.1) r.2.1 else withFull s r.1) id 9
def gAgain (s : State) (id : Int) : State := if (wSees s.word s.slots.length).2 = 4 ∧ ¬ (me s id).late then rAt s id 8 else rAt s id 2
def gCommit (s : State) (id : Int) : State :=
  if (me s id).late then rAt s id 2 else
    let r := vCommit s.empty (me s id).seen id
    if r.2.1 then put1 (withEmpty s r.1) id (tPark (setPc (me s id) 2) 2).1 else rAt (withEmpty s r.1) id 2
def gLeave (s : State) (id : Int) : State := put1 (withRecvs s (lLeave s.recvs id).1) id (tDone (me s id)).1
def gIs (s : State) (id : Int) : Bool := fabIs s id && decide (tRuns (me s id) = 0) && decide (opSide (me s id).kind = 2)
def gStep (s : State) (id : Int) : State :=
  if ¬ gIs s id then s else match (me s id).pc.toNat with
    | 0 => gEnter s id
    | 1 => gFirst s id
    | 2 => gLook s id
    | 3 => gTake s id
    | 4 => gRead s id
    | 5 => gPrepare s id
    | 6 => gNotify s id
    | 7 => gAgain s id
    | 8 => gCommit s id
    | _ => gLeave s id
def nRun (is : State → Bool) (st : State → State) : Nat → State → State × Nat
  | 0, s => (s, 0)
  | n + 1, s => if is s then ((nRun is st n (st s)).1, (nRun is st n (st s)).2 + 1) else (s, 0)
theorem nRun_s {is : State → Bool} {st : State → State} {s : State} {n : Nat} (h : is s = true) : nRun is st (n + 1) s = ((nRun is st n (st s)).1, (nRun is st n (st s)).2 + 1) := by simp only [nRun, h, if_true]
theorem nRun_0 {is : State → Bool} {st : State → State} {s : State} {n : Nat} (h : is s = false) : nRun is st n s = (s, 0) := by
  cases n with
  | zero => rfl
  | succ n => simp only [nRun, h, Bool.false_eq_true, if_false]
end Go.Sak
namespace Go.Sak
open Go Go.RowKit
set_option linter.unusedVariables false
set_option linter.unusedSimpArgs false

theorem tc_got {t : Thread} {x : Int} (h : tCheck t = true) (hr : t.st = 1) : tCheck (setGot t x) = true := by
  simp only [tCheck, tKind, tTime, tPlace, setGot, within, Bool.and_eq_true, Bool.or_eq_true, decide_eq_true_eq] at *; grind
theorem Rn.got {s : State} {id x : Int} (h : Rn s id) : Rn (put1 s id (setGot (me s id) x)) id := h.put (tc_got h.tc h.run) h.run
theorem take_at {w : Word} {room : Int} (h : posCheck w room = true) : 0 ≤ (wTake w room).2.1 ∧ (wTake w room).2.1 ≤ 1099511627776 := by
  simp only [posCheck, within, Bool.and_eq_true, decide_eq_true_eq] at h
  unfold wTake; split
  · simp
  · split
    · simp only []; omega
    · split <;> simp
theorem g_vain {s : State} {id : Int} (h : Rn s id) : Rn (gVain s id) id := by
  unfold gVain; split
  · exact h.ends (by decide) (by decide) (by decide) (by decide)
  · split
    · exact h.ends (by decide) (by decide) (by decide) (by decide)
    · split
      · exact h.at (by decide) (by decide)
      · exact h.on
theorem g_stays {s : State} {id : Int} (h : Fab s) : Fab (gStep s id) := by
  unfold gStep
  split
  · exact h
  · rename_i hI
    simp only [Classical.not_not, gIs, Bool.and_eq_true, decide_eq_true_eq] at hI
    have hR : Rn s id := rn_of hI.1.1 hI.1.2
    have hb := h.wb
    have hl := h.len
    split
    · exact ((hR.rv (among_enter h.recvs hR.lo (by have := h.thl; have := hR.hi; omega))).at (by decide) (by decide)).fab
    · unfold gFirst; split
      · exact (hR.at (by decide) (by decide)).fab
      · split
        · exact (hR.ends (by decide) (by decide) (by decide) (by decide)).fab
        · exact hR.on.fab
    · unfold gLook; split
      · exact (hR.at (by decide) (by decide)).fab
      · split
        · exact (g_vain hR).fab
        · have := take_res (w := s.word) (room := s.slots.length)
          exact (hR.ends this.1 this.2 (by decide) (by decide)).fab
    · unfold gTake
      have hw : Rn (withWord s (wTake s.word s.slots.length).1) id := hR.wd (by rw [hl]; exact wp_take h.word)
      have ha := take_at (w := s.word) (room := s.slots.length) (by rw [hl]; exact h.word)
      have := take_res (w := s.word) (room := s.slots.length)
      simp only []; split
      · exact ((hw.reg ha.1 ha.2).rtell (by decide) (by decide) (by decide) (by decide)).fab
      · split
        · exact (hR.at (by decide) (by decide)).fab
        · exact (hR.ends this.1 this.2 (by decide) (by decide)).fab
    · unfold gRead
      exact ((hR.got.sl slotR_len (sc_release h.slot)).at (by decide) (by decide)).fab
    · exact ((hR.seen vp_ok.1 vp_ok.2).at (by decide) (by decide)).fab
    · unfold gNotify; simp only []
      have hn := vn_ok h.full h.fl
      have he := hR.fu hn.2 hn.1
      split
      · exact (he.wake.at (by decide) (by decide)).fab
      · exact (he.at (by decide) (by decide)).fab
    · unfold gAgain; split <;> exact (hR.at (by decide) (by decide)).fab
    · unfold gCommit; split
      · exact (hR.at (by decide) (by decide)).fab
      · simp only []
        have hn := vcm_ok (seen := (me s id).seen) h.empty h.el hR.lo (by have := h.thl; have := hR.hi; omega)
        have he := hR.em hn.2 hn.1
        split
        · exact he.fab.put (tc_park (tc_pc hR.tc hR.run (by decide) (by decide)) (by decide) (by decide))
        · exact (he.at (by decide) (by decide)).fab
    · unfold gLeave
      exact (hR.rv (among_leave h.recvs)).fab.put (tc_done hR.tc)
theorem nf_vain {s : State} {id : Int} : NF s (gVain s id) id := by
  have h0 := upd_refl s
  unfold gVain; split
  · exact .ends h0
  · split
    · exact .ends h0
    · split
      · exact .at h0
      · exact .on h0
theorem NF.tell2 {s u : State} {id k r g pc : Int} {t : Thread} (h : Upd s u) : NF s (rTell (put1 u id t) id k r g pc) id := by
  unfold rTell fabTell; split
  · refine .inr ⟨u, setPc (me (logged (put1 (put1 u id t) id (tTold (me (put1 u id t) id) k r g)) ⟨id, k, (me (put1 u id t) id).val, r, g⟩) id) pc, h, .inr (.inl ⟨⟨id, k, (me (put1 u id t) id).val, r, g⟩, ?_⟩)⟩
    unfold rAt logged put1; simp [List.set_set]
  · exact .at2 h
theorem g_nf {s : State} {id : Int} : NF s (gStep s id) id := by
  have h0 := upd_refl s
  unfold gStep
  split
  · exact .refl s id
  · split
    · exact .at (upd_recvs s _)
    · unfold gFirst; split
      · exact .at h0
      · split
        · exact .ends h0
        · exact .on h0
    · unfold gLook; split
      · exact .at h0
      · split
        · exact nf_vain
        · exact .ends h0
    · unfold gTake; simp only []; split
      · exact .tell2 (upd_word s _)
      · split
        · exact .at h0
        · exact .ends h0
    · unfold gRead
      exact .at2 (upd_release s _)
    · exact .at2 h0
    · unfold gNotify; simp only []; split
      · exact .wake (upd_full s _)
      · exact .at (upd_full s _)
    · unfold gAgain; split <;> exact .at h0
    · unfold gCommit; split
      · exact .at h0
      · simp only []; split
        · exact .put (upd_empty s _)
        · exact .at (upd_empty s _)
    · exact .put (upd_recvs s _)
end Go.Sak
