/- Part S64 of the proofs about the program: Py. Conditions: none. -/
import Derived.Test.YtojlofaafkdhgaaGreatS62
import Derived.Test.YtojlofaafkdhgaaGreatS46
namespace Go.Sak
open Go Go.RowKit
set_option linter.unusedVariables false
set_option linter.unusedSimpArgs false

/-- What is known where one receives. -/
structure Gv (u : State) (id : Int) (t : Thread) : Prop where
  fab : Fab (put1 u id t)
  lo : 0 ≤ id
  hi : id < u.threads.length
  run : t.st = 1
  side : opSide t.kind = 2
theorem Gv.is {u : State} {id : Int} {t : Thread} (h : Gv u id t) : gIs (put1 u id t) id = true := by
  have hm := me_put (t := t) h.lo h.hi
  exact gIs_iff.2 ⟨⟨h.fab, h.lo, by simp only [put1, List.length_set]; exact h.hi, by rw [hm]; exact h.run⟩, by rw [hm]; exact h.side⟩
theorem Gv.rn {u : State} {id : Int} {t : Thread} (h : Gv u id t) : Rn (put1 u id t) id := (gIs_iff.1 h.is).1
theorem Gv.step {u u' : State} {id : Int} {t t' : Thread} (h : Gv u id t) (e : gStep (put1 u id t) id = put1 u' id t') (hl : u'.threads.length = u.threads.length) (h1 : t'.st = 1) (h2 : t'.kind = t.kind) : Gv u' id t' :=
  ⟨e ▸ g_stays h.fab, h.lo, by rw [hl]; exact h.hi, h1, by rw [h2]; exact h.side⟩
theorem Gv.id16 {u : State} {id : Int} {t : Thread} (h : Gv u id t) : id < 16 := by
  have h1 := th16 h.fab
  have h2 := h.fab.thl
  have h3 := h.hi
  simp only [put1, List.length_set] at h1 h2; omega
theorem Gv.at {u : State} {id : Int} {t : Thread} (h : Gv u id t) : gStep (put1 u id t) id = (match t.pc.toNat with
    | 0 => gEnter (put1 u id t) id | 1 => gFirst (put1 u id t) id | 2 => gLook (put1 u id t) id | 3 => gTake (put1 u id t) id | 4 => gRead (put1 u id t) id | 5 => gPrepare (put1 u id t) id | 6 => gNotify (put1 u id t) id
    | 7 => gAgain (put1 u id t) id | 8 => gCommit (put1 u id t) id | _ => gLeave (put1 u id t) id) := by
  unfold gStep
  rw [if_neg (by simp [h.is]), me_put h.lo h.hi]
  rfl
theorem gv_0 {u : State} {id : Int} {t : Thread} (h : Gv u id t) (hp : t.pc = 0) : gStep (put1 u id t) id = put1 (withRecvs u (lEnter u.recvs id).1) id (setPc t 1) := by
  rw [h.at, hp]
  show rAt (withRecvs (put1 u id t) (lEnter u.recvs id).1) id 1 = _
  unfold rAt
  rw [show me (withRecvs (put1 u id t) (lEnter u.recvs id).1) id = t from me_put h.lo h.hi]
  exact put_put (withRecvs u (lEnter u.recvs id).1) id t _
theorem gv_1 {u : State} {id : Int} {t : Thread} (h : Gv u id t) (hp : t.pc = 1) (hl : lPlace u.recvs id = 0) : gStep (put1 u id t) id = put1 u id (setPc t 2) := by
  rw [h.at, hp]
  show gFirst (put1 u id t) id = _
  unfold gFirst
  rw [if_pos (show lPlace (put1 u id t).recvs id = 0 from hl)]
  unfold rAt
  rw [me_put h.lo h.hi, put_put]
theorem gv_2 {u : State} {id : Int} {t : Thread} (h : Gv u id t) (hp : t.pc = 2) (hw : (wTake u.word u.slots.length).2.2 = 1) : gStep (put1 u id t) id = put1 u id (setPc t 3) := by
  rw [h.at, hp]
  show gLook (put1 u id t) id = _
  unfold gLook
  rw [if_pos (show (wSees (put1 u id t).word (put1 u id t).slots.length).2 = 1 from hw)]
  unfold rAt
  rw [me_put h.lo h.hi, put_put]
theorem gv_2v {u : State} {id : Int} {t : Thread} (h : Gv u id t) (hp : t.pc = 2) (hw : (wTake u.word u.slots.length).2.2 = 4) : gStep (put1 u id t) id = gVain (put1 u id t) id := by
  rw [h.at, hp]
  show gLook (put1 u id t) id = _
  unfold gLook
  have e : (wSees (put1 u id t).word (put1 u id t).slots.length).2 = 4 := hw
  rw [if_neg (by rw [e]; decide), if_pos e]
theorem gv_3 {u : State} {id : Int} {t : Thread} {w : Word} {a : Int} (h : Gv u id t) (hp : t.pc = 3) (hw : wTake u.word u.slots.length = (w, a, 1)) :
    gStep (put1 u id t) id = put1 (logged (withWord u w) ⟨id, t.kind, t.val, 1, fabValue (put1 u id t) a⟩) id (setPc (tTold (setReg t a) t.kind 1 (fabValue (put1 u id t) a)) 4) := by
  rw [h.at, hp]
  show gTake (put1 u id t) id = _
  have hwp := h.fab.word
  rw [← h.fab.len] at hwp
  have ha := take_at (w := u.word) (room := u.slots.length) hwp
  rw [hw] at ha
  have hr : Rn (put1 (put1 (withWord u w) id t) id (setReg t a)) id := by
    have h1 : Rn (put1 (withWord u w) id t) id := by
      have := h.rn.wd (w := w) (by
        have := wp_take h.fab.word
        rw [← h.fab.len] at this ⊢
        have e : (wTake (put1 u id t).word (put1 u id t).slots.length).1 = w := congrArg Prod.fst hw
        rw [e] at this; exact this)
      exact this
    have h2 := h1.reg ha.1 ha.2
    rw [show me (put1 (withWord u w) id t) id = t from me_put h.lo h.hi] at h2
    exact h2
  rw [put_put] at hr
  unfold gTake
  rw [me_put h.lo h.hi]
  show (if (wTake u.word u.slots.length).2.2 = 1 then rTell (put1 (put1 (withWord u (wTake u.word u.slots.length).1) id t) id (setReg t (wTake u.word u.slots.length).2.1)) id t.kind 1 (fabValue (put1 u id t) (wTake u.word u.slots.length).2.1) 4 else _) = _
  rw [hw, if_pos rfl, put_put, sd_tell hr h.hi]
  rfl
theorem gv_4 {u : State} {id : Int} {t : Thread} (h : Gv u id t) (hp : t.pc = 4) (hr : slotReady u.slots t.reg = true) (hm : t.reg ≤ 1099511627776) :
    gStep (put1 u id t) id = put1 (withSlots u (u.slots.set (slotAt u.slots t.reg) ⟨t.reg + u.slots.length, (u.slots.getD (slotAt u.slots t.reg) default).val⟩)) id (setPc (setGot t (u.slots.getD (slotAt u.slots t.reg) default).val) 6) := by
  obtain ⟨h0, hc, hs⟩ := ready_stamp hr
  have e : slotRelease u.slots t.reg = (u.slots.set (slotAt u.slots t.reg) ⟨t.reg + u.slots.length, (u.slots.getD (slotAt u.slots t.reg) default).val⟩, 0) := by
    unfold slotRelease
    rw [if_neg (by simp [hc, hr]; omega), if_neg (by omega), hs]
  have e2 : slotRead u.slots t.reg = ((u.slots.getD (slotAt u.slots t.reg) default).val, 0) := by
    unfold slotRead
    rw [if_neg (by simp [hc, hr]; omega)]
  rw [h.at, hp]
  show gRead (put1 u id t) id = _
  unfold gRead
  rw [me_put h.lo h.hi]
  show rAt (withSlots (put1 (put1 u id t) id (setGot t (slotRead u.slots t.reg).1)) (slotRelease u.slots t.reg).1) id 6 = _
  rw [e, e2, put_put]
  unfold rAt
  rw [show ∀ l r, me (withSlots (put1 u id r) l) id = r from fun l r => me_put h.lo h.hi]
  exact put_put (withSlots u _) id _ _
theorem gv_6 {u : State} {id : Int} {t : Thread} (h : Gv u id t) (hp : t.pc = 6) (hl : u.full.ln = []) : gStep (put1 u id t) id = put1 (withFull u ⟨min (u.full.ep + 1) 1099511627776, []⟩) id (setPc t 9) := by
  rw [h.at, hp]
  show gNotify (put1 u id t) id = _
  have hv : vNotify u.full = (⟨min (u.full.ep + 1) 1099511627776, []⟩, 0, false) := by
    unfold vNotify
    rw [if_neg (by have := h.fab.full; simp only [put1] at this; simp [this]), hl]
  unfold gNotify
  show rAt (if (vNotify u.full).2.2 = true then _ else withFull (put1 u id t) (vNotify u.full).1) id 9 = _
  rw [hv]
  simp only [Bool.false_eq_true, if_false]
  unfold rAt
  rw [show ∀ e, me (withFull (put1 u id t) e) id = t from fun e => me_put h.lo h.hi]
  exact put_put (withFull u _) id t _
theorem gv_9 {u : State} {id : Int} {t : Thread} (h : Gv u id t) (hp : t.pc = 9) : gStep (put1 u id t) id = put1 (withRecvs u (lLeave u.recvs id).1) id (tBare t) := by
  rw [h.at, hp]
  show gLeave (put1 u id t) id = _
  unfold gLeave
  rw [me_put h.lo h.hi]
  have : tDone t = (tBare t, 0) := by unfold tDone tRuns; rw [h.run]; rfl
  rw [this]
  exact put_put (withRecvs u (lLeave u.recvs id).1) id t _
theorem gv_5 {u : State} {id : Int} {t : Thread} (h : Gv u id t) (hp : t.pc = 5) : gStep (put1 u id t) id = put1 u id (setPc (setSeen t u.empty.ep) 7) := by
  rw [h.at, hp]
  show gPrepare (put1 u id t) id = _
  unfold gPrepare rAt
  have hv : vPrepare (put1 u id t).empty = u.empty.ep := by unfold vPrepare; rw [if_pos h.fab.empty]; rfl
  rw [hv, show ∀ r, me (put1 (put1 u id t) id r) id = r from fun r => by rw [put_put, me_put h.lo h.hi], me_put h.lo h.hi, put_put, put_put]
theorem gv_7 {u : State} {id : Int} {t : Thread} (h : Gv u id t) (hp : t.pc = 7) (hw : (wTake u.word u.slots.length).2.2 = 4) (hl : t.late = false) : gStep (put1 u id t) id = put1 u id (setPc t 8) := by
  rw [h.at, hp]
  show gAgain (put1 u id t) id = _
  unfold gAgain
  rw [me_put h.lo h.hi, if_pos ⟨hw, by simp [hl]⟩]
  unfold rAt
  rw [me_put h.lo h.hi, put_put]
theorem gv_8 {u : State} {id : Int} {t : Thread} (h : Gv u id t) (hp : t.pc = 8) (hl : t.late = false) (hf : u.empty.ln = []) (hs : t.seen = u.empty.ep) :
    gStep (put1 u id t) id = put1 (withEmpty u ⟨u.empty.ep, [id]⟩) id ⟨2, t.kind, t.val, t.untl, 2, t.reg, t.seen, 0, t.late, t.res, t.got⟩ := by
  rw [h.at, hp]
  show gCommit (put1 u id t) id = _
  have hv : vCommit u.empty t.seen id = (⟨u.empty.ep, [id]⟩, true, 0) := by
    unfold vCommit
    rw [if_neg (by have := h.fab.empty; simp only [put1] at this; simp [this]), hf, (line_one h.lo h.id16).1, if_neg (by simp [hs])]
  unfold gCommit
  rw [me_put h.lo h.hi, if_neg (by simp [hl])]
  show (if (vCommit u.empty t.seen id).2.1 = true then put1 (withEmpty (put1 u id t) (vCommit u.empty t.seen id).1) id (tPark (setPc t 2) 2).1 else _) = _
  rw [hv, if_pos rfl]
  have : (tPark (setPc t 2) 2).1 = ⟨2, t.kind, t.val, t.untl, 2, t.reg, t.seen, 0, t.late, t.res, t.got⟩ := by
    unfold tPark tRuns
    rw [if_neg (by simp [setPc, h.run])]; rfl
  rw [this]
  exact put_put (withEmpty u _) id t _
theorem gv_stop {u : State} {id : Int} {t : Thread} {n : Nat} (h0 : 0 ≤ id) (h1 : id < u.threads.length) (hs : t.st ≠ 1) : gRun (put1 u id t) id n = (put1 u id t, 0) := by
  refine nRun_0 ?_
  cases hi : gIs (put1 u id t) id with
  | false => rfl
  | true =>
    have := (gIs_iff.1 hi).1.run
    rw [me_put h0 h1] at this
    exact absurd this hs
theorem grun_cons {x y z : State} {id : Int} {n m : Nat} (h : gIs x id = true) (e : gStep x id = y) (r : gRun y id n = (z, m)) : gRun x id (n + 1) = (z, m + 1) := by
  unfold gRun at *
  rw [nRun_s (is := fun s => gIs s id) h, e, r]
/-- What one leaves that received alone. -/
def oneOut (u : State) (id kind v : Int) : State :=
  ⟨u.cfg, ⟨u.word.h + 1, u.word.t, u.word.m⟩, u.slots.set (slotAt u.slots u.word.h) ⟨u.word.h + u.slots.length, v⟩, u.sends, [], ⟨min (u.full.ep + 1) 1099511627776, []⟩, u.empty, u.now, u.threads, u.log ++ [⟨id, kind, 0, 1, v⟩]⟩
theorem glone {u : State} {id kind v : Int} (h : Gv u id (t0 kind 0 0)) (hs : u.recvs = []) (he : u.full.ln = []) (hw : wTake u.word u.slots.length = (⟨u.word.h + 1, u.word.t, u.word.m⟩, u.word.h, 1))
    (hr : slotReady u.slots u.word.h = true) (hb : u.word.h ≤ 1099511627776) (hv : (u.slots.getD (slotAt u.slots u.word.h) default).val = v) (n : Nat) : gRun (put1 u id (t0 kind 0 0)) id (n + 7) = (put1 (oneOut u id kind v) id (t9 kind 0 0 1 v), 7) := by
  obtain ⟨hl1, hl2, hl3⟩ := line_one h.lo h.id16
  have hk : kind ≠ 9 := side_k h.side
  have h00 := ready_stamp hr
  have e0 := gv_0 h rfl
  rw [hs, hl1] at e0
  have h1 := h.step e0 rfl rfl rfl
  have e1 := gv_1 h1 rfl hl2
  have h2 := h1.step e1 rfl rfl rfl
  have e2 := gv_2 h2 rfl (by show (wTake u.word u.slots.length).2.2 = 1; rw [hw])
  have h3 := h2.step e2 rfl rfl rfl
  have hfv : fabValue (put1 (withRecvs u [id]) id (setPc (setPc (setPc (t0 kind 0 0) 1) 2) 3)) u.word.h = v := by
    unfold fabValue
    rw [if_neg (by simp [fab_iff.2 h3.fab]; omega)]
    exact hv
  have e3 := gv_3 (w := ⟨u.word.h + 1, u.word.t, u.word.m⟩) (a := u.word.h) h3 rfl hw
  rw [hfv] at e3
  have ht : setPc (tTold (setReg (setPc (setPc (setPc (t0 kind 0 0) 1) 2) 3) u.word.h) kind 1 v) 4 = ⟨1, kind, 0, 0, 4, u.word.h, 0, 0, false, 1, v⟩ := by
    unfold tTold; rw [if_pos hk]; rfl
  rw [show (setPc (setPc (setPc (t0 kind 0 0) 1) 2) 3).kind = kind from rfl, ht] at e3
  have h4 := h3.step e3 rfl rfl rfl
  have e4 := gv_4 h4 rfl hr hb
  have h5 := h4.step e4 rfl rfl rfl
  have e5 := gv_6 h5 rfl he
  have h6 := h5.step e5 rfl rfl rfl
  have e6 := gv_9 h6 rfl
  have hrun := grun_cons h.is e0 (grun_cons h1.is e1 (grun_cons h2.is e2 (grun_cons h3.is e3 (grun_cons h4.is e4 (grun_cons h5.is e5 (grun_cons h6.is e6 (gv_stop (n := n) h6.lo (by exact h6.hi) (fun e => absurd (show (0 : Int) = 1 from e) (by decide)))))))))
  rw [show n + 7 = n + 1 + 1 + 1 + 1 + 1 + 1 + 1 from rfl, hrun]
  refine Prod.ext ?_ rfl
  show put1 (withRecvs _ (lLeave [id] id).1) id _ = _
  rw [hl3]
  show (⟨u.cfg, _, u.slots.set (slotAt u.slots u.word.h) ⟨u.word.h + u.slots.length, (u.slots.getD (slotAt u.slots u.word.h) default).val⟩, u.sends, [], _, u.empty, u.now, u.threads.set id.toNat ⟨0, kind, 0, 0, 0, 0, 0, 0, false, 1, (u.slots.getD (slotAt u.slots u.word.h) default).val⟩, _⟩ : State) = _
  rw [hv]
  rfl
end Go.Sak
