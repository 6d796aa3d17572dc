/- Part S45 of the proofs about the program: Po, Pp. Conditions: none. -/
import Derived.Test.YtojlofaafkdhgaaGreatS40
namespace Go.Sak
open Go Go.RowKit
set_option linter.unusedVariables false
set_option linter.unusedSimpArgs false

theorem sIs_iff {s : State} {id : Int} : sIs s id = true ↔ Rn s id ∧ opSide (me s id).kind = 1 := by
  simp only [sIs, Bool.and_eq_true, decide_eq_true_eq]
  constructor
  · rintro ⟨⟨h1, h2⟩, h3⟩; exact ⟨rn_of h1 h2, h3⟩
  · rintro ⟨h1, h3⟩; exact ⟨⟨h1.is, by unfold tRuns; rw [h1.run]; rfl⟩, h3⟩
theorem th16 {s : State} (h : Fab s) : s.cfg.th ≤ 16 := by
  have := h.room
  unfold confRoom at this; split at this
  · rename_i hc; simp only [confOk, within, Bool.and_eq_true, decide_eq_true_eq] at hc; omega
  · exact absurd rfl this
theorem sRun_s {s : State} {id : Int} {n : Nat} (h : sIs s id = true) : sRun s id (n + 1) = ((sRun (sStep s id) id n).1, (sRun (sStep s id) id n).2 + 1) := by simp only [sRun, h, if_true]
theorem sRun_0 {s : State} {id : Int} {n : Nat} (h : sIs s id = false) : sRun s id n = (s, 0) := by
  cases n with
  | zero => rfl
  | succ n => simp only [sRun, h, Bool.false_eq_true, if_false]
structure Sd (u : State) (id : Int) (t : Thread) : Prop where
  fab : Fab (put1 u id t)
  lo : 0 ≤ id
  hi : id < u.threads.length
  run : t.st = 1
  side : opSide t.kind = 1
theorem Sd.is {u : State} {id : Int} {t : Thread} (h : Sd u id t) : sIs (put1 u id t) id = true := by
  have hm := me_put (t := t) h.lo h.hi
  exact sIs_iff.2 ⟨⟨h.fab, h.lo, by simp only [put1, List.length_set]; exact h.hi, by rw [hm]; exact h.run⟩, by rw [hm]; exact h.side⟩
theorem Sd.step {u u' : State} {id : Int} {t t' : Thread} (h : Sd u id t) (e : sStep (put1 u id t) id = put1 u' id t') (hl : u'.threads.length = u.threads.length) (h1 : t'.st = 1) (h2 : t'.kind = t.kind) : Sd u' id t' :=
  ⟨e ▸ s_stays h.fab, h.lo, by rw [hl]; exact h.hi, h1, by rw [h2]; exact h.side⟩
theorem Sd.at {u : State} {id : Int} {t : Thread} (h : Sd u id t) : sStep (put1 u id t) id = (match t.pc.toNat with
    | 0 => sEnter (put1 u id t) id | 1 => sFirst (put1 u id t) id | 2 => sLook (put1 u id t) id | 3 => sWrite (put1 u id t) id | 4 => sAccept (put1 u id t) id | 5 => sPrepare (put1 u id t) id | 6 => sNotify (put1 u id t) id
    | 7 => sAgain (put1 u id t) id | 8 => sCommit (put1 u id t) id | 9 => sLeave (put1 u id t) id | 10 => sEvict (put1 u id t) id | 11 => sRelease (put1 u id t) id | _ => put1 u id t) := by
  unfold sStep
  rw [if_neg (by simp [h.is]), me_put h.lo h.hi]
  rfl
theorem sd_0 {u : State} {id : Int} {t : Thread} (h : Sd u id t) (hp : t.pc = 0) : sStep (put1 u id t) id = put1 (withSends u (lEnter u.sends id).1) id (setPc t 1) := by
  rw [h.at, hp]
  show rAt (withSends (put1 u id t) (lEnter u.sends id).1) id 1 = _
  unfold rAt
  rw [show me (withSends (put1 u id t) (lEnter u.sends id).1) id = t from me_put h.lo h.hi]
  exact put_put (withSends u (lEnter u.sends id).1) id t _
theorem sd_1 {u : State} {id : Int} {t : Thread} (h : Sd u id t) (hp : t.pc = 1) (hl : lPlace u.sends id = 0) : sStep (put1 u id t) id = put1 u id (setPc t 2) := by
  rw [h.at, hp]
  show sFirst (put1 u id t) id = _
  unfold sFirst
  rw [if_pos (show lPlace (put1 u id t).sends id = 0 from hl)]
  unfold rAt
  rw [me_put h.lo h.hi, put_put]
theorem sd_2 {u : State} {id : Int} {t : Thread} (h : Sd u id t) (hp : t.pc = 2) (hw : (wAccept u.word u.slots.length).2.2 = 1) : sStep (put1 u id t) id = put1 u id (setPc (setReg t u.word.t) 3) := by
  rw [h.at, hp]
  show sLook (put1 u id t) id = _
  unfold sLook
  rw [if_pos (show (wSees (put1 u id t).word (put1 u id t).slots.length).1 = 1 from hw)]
  unfold rAt
  rw [show ∀ r, me (put1 (put1 u id t) id r) id = r from fun r => by rw [put_put, me_put h.lo h.hi], me_put h.lo h.hi, put_put, put_put]
  rfl
theorem sd_3 {u : State} {id : Int} {t : Thread} (h : Sd u id t) (hp : t.pc = 3) (hr : slotReady u.slots t.reg = true) :
    sStep (put1 u id t) id = put1 (withSlots u (u.slots.set (slotAt u.slots t.reg) ⟨t.reg, t.val⟩)) id (setPc t 4) := by
  obtain ⟨h0, hc, hs⟩ := ready_stamp hr
  have e : slotWrite u.slots t.reg t.val = (u.slots.set (slotAt u.slots t.reg) ⟨t.reg, t.val⟩, 0) := by
    unfold slotWrite
    rw [if_neg (by simp [hc]; omega), if_neg (by simp [hr]), hs]
  rw [h.at, hp]
  show sWrite (put1 u id t) id = _
  unfold sWrite
  rw [me_put h.lo h.hi]
  show (if (slotWrite u.slots t.reg t.val).2 = 0 then rAt (withSlots (put1 u id t) (slotWrite u.slots t.reg t.val).1) id 4 else put1 u id t) = _
  rw [e, if_pos rfl]
  unfold rAt
  rw [show ∀ l, me (withSlots (put1 u id t) l) id = t from fun l => me_put h.lo h.hi]
  exact put_put (withSlots u _) id t _
theorem sd_tell {u : State} {id : Int} {t : Thread} (h : Rn (put1 u id t) id) (hu : id < u.threads.length) (k r g pc : Int) : rTell (put1 u id t) id k r g pc = put1 (logged u ⟨id, k, t.val, r, g⟩) id (setPc (tTold t k r g) pc) := by
  unfold rTell fabTell
  rw [if_pos h.is, me_put h.lo hu, put_put]
  unfold rAt
  rw [me_logged, me_put h.lo hu]
  exact put_put (logged u ⟨id, k, t.val, r, g⟩) id _ _
theorem Sd.rn {u : State} {id : Int} {t : Thread} (h : Sd u id t) : Rn (put1 u id t) id := (sIs_iff.1 h.is).1
theorem sd_4 {u : State} {id : Int} {t : Thread} {w : Word} {a : Int} (h : Sd u id t) (hp : t.pc = 4) (hw : wAccept u.word u.slots.length = (w, a, 1)) :
    sStep (put1 u id t) id = put1 (logged (withWord u w) ⟨id, t.kind, t.val, 1, 0⟩) id (setPc (tTold t t.kind 1 0) 6) := by
  rw [h.at, hp]
  show sAccept (put1 u id t) id = _
  have hr : Rn (put1 (withWord u w) id t) id := by
    have := h.rn.wd (w := w) (by
      have := wp_accept h.fab.word
      rw [← h.fab.len] at this ⊢
      have e : (wAccept (put1 u id t).word (put1 u id t).slots.length).1 = w := congrArg Prod.fst hw
      rw [e] at this; exact this)
    exact this
  unfold sAccept
  rw [me_put h.lo h.hi]
  show (if (wAccept u.word u.slots.length).2.2 = 1 then rTell (put1 (withWord u (wAccept u.word u.slots.length).1) id t) id t.kind 1 0 6 else _) = _
  rw [hw, if_pos rfl, sd_tell hr h.hi]
theorem sd_6 {u : State} {id : Int} {t : Thread} (h : Sd u id t) (hp : t.pc = 6) (hl : u.empty.ln = []) : sStep (put1 u id t) id = put1 (withEmpty u ⟨min (u.empty.ep + 1) 1099511627776, []⟩) id (setPc t 9) := by
  rw [h.at, hp]
  show sNotify (put1 u id t) id = _
  have hv : vNotify u.empty = (⟨min (u.empty.ep + 1) 1099511627776, []⟩, 0, false) := by
    unfold vNotify
    rw [if_neg (by have := h.fab.empty; simp only [put1] at this; simp [this]), hl]
  unfold sNotify
  show rAt (if (vNotify u.empty).2.2 = true then _ else withEmpty (put1 u id t) (vNotify u.empty).1) id 9 = _
  rw [hv]
  simp only [Bool.false_eq_true, if_false]
  unfold rAt
  rw [show ∀ e, me (withEmpty (put1 u id t) e) id = t from fun e => me_put h.lo h.hi]
  exact put_put (withEmpty u _) id t _
theorem sd_9 {u : State} {id : Int} {t : Thread} (h : Sd u id t) (hp : t.pc = 9) : sStep (put1 u id t) id = put1 (withSends u (lLeave u.sends id).1) id (tBare t) := by
  rw [h.at, hp]
  show sLeave (put1 u id t) id = _
  unfold sLeave
  rw [me_put h.lo h.hi]
  have : tDone t = (tBare t, 0) := by unfold tDone tRuns; rw [h.run]; rfl
  rw [this]
  exact put_put (withSends u (lLeave u.sends id).1) id t _
theorem line_one {id : Int} (h0 : 0 ≤ id) (h1 : id < 16) : lEnter [] id = ([id], 0) ∧ lPlace [id] id = 0 ∧ lLeave [id] id = ([], 0) := by
  have hc : lCheck [id] = true := lCheck_iff.2 ⟨by simp, fun x hx => by simp at hx; omega⟩
  have hp : lPlace [id] id = 0 := by simp [lPlace, hc, idxF, List.findIdx?_cons]
  refine ⟨?_, hp, ?_⟩
  · unfold lEnter
    rw [if_neg (by simp [hc]; rfl), if_neg (by simp [lPlace, lCheck, idxF, lU])]
    rfl
  · unfold lLeave; rw [if_neg (by rw [hp]; decide), hp]; rfl
theorem sd_end {u : State} {id : Int} {t : Thread} {n : Nat} (h0 : 0 ≤ id) (h1 : id < u.threads.length) : sRun (put1 u id (tBare t)) id n = (put1 u id (tBare t), 0) := by
  refine sRun_0 ?_
  simp only [sIs, me_put h0 h1]
  simp [tBare, tRuns]

def t0 (kind val untl : Int) : Thread := ⟨1, kind, val, untl, 0, 0, 0, 0, false, 0, 0⟩
def t9 (kind val untl res got : Int) : Thread := ⟨0, kind, val, untl, 0, 0, 0, 0, false, res, got⟩
def oneIn (u : State) (id kind val : Int) : State :=
  ⟨u.cfg, ⟨u.word.h, u.word.t + 1, u.word.m⟩, u.slots.set (slotAt u.slots u.word.t) ⟨u.word.t, val⟩, [], u.recvs, u.full, ⟨min (u.empty.ep + 1) 1099511627776, []⟩, u.now, u.threads, u.log ++ [⟨id, kind, val, 1, 0⟩]⟩
theorem Sd.id16 {u : State} {id : Int} {t : Thread} (h : Sd u id t) : id < 16 := by
  have h1 := th16 h.fab
  have h2 := h.fab.thl
  have h3 := h.hi
  simp only [put1, List.length_set] at h1 h2; omega
theorem lone {u : State} {id kind val untl : Int} (h : Sd u id (t0 kind val untl)) (hs : u.sends = []) (he : u.empty.ln = []) (hk : kind ≠ 9) (hw : wAccept u.word u.slots.length = (⟨u.word.h, u.word.t + 1, u.word.m⟩, u.word.t, 1))
    (hr : slotReady u.slots u.word.t = true) (n : Nat) : sRun (put1 u id (t0 kind val untl)) id (n + 7) = (put1 (oneIn u id kind val) id (t9 kind val untl 1 0), 7) := by
  obtain ⟨hl1, hl2, hl3⟩ := line_one h.lo h.id16
  have e0 := sd_0 h rfl
  rw [hs, hl1] at e0
  have h1 := h.step e0 rfl rfl rfl
  have e1 := sd_1 h1 rfl hl2
  have h2 := h1.step e1 rfl rfl rfl
  have e2 := sd_2 h2 rfl (by show (wAccept u.word u.slots.length).2.2 = 1; rw [hw])
  have h3 := h2.step e2 rfl rfl rfl
  have e3 := sd_3 h3 rfl hr
  have h4 := h3.step e3 rfl rfl rfl
  have e4 := sd_4 (w := ⟨u.word.h, u.word.t + 1, u.word.m⟩) (a := u.word.t) h4 rfl (by
    show wAccept u.word ((u.slots.set _ _).length : Nat) = _
    rw [List.length_set]; exact hw)
  have h5 := h4.step e4 rfl (by unfold tTold setPc; split <;> rfl) (by unfold tTold setPc; split <;> rfl)
  have ht : tTold (setPc (setPc (setReg (setPc (setPc (t0 kind val untl) 1) 2) u.word.t) 3) 4) kind 1 0 = ⟨1, kind, val, untl, 4, u.word.t, 0, 0, false, 1, 0⟩ := by
    unfold tTold; rw [if_pos hk]; rfl
  have e5 := sd_6 h5 rfl he
  have h6 := h5.step e5 rfl (by unfold tTold setPc; split <;> rfl) (by unfold tTold setPc; split <;> rfl)
  have e6 := sd_9 h6 rfl
  rw [show n + 7 = n + 6 + 1 from rfl, sRun_s h.is, e0, show n + 6 = n + 5 + 1 from rfl, sRun_s h1.is, e1, show n + 5 = n + 4 + 1 from rfl, sRun_s h2.is, e2, show n + 4 = n + 3 + 1 from rfl, sRun_s h3.is, e3,
    show n + 3 = n + 2 + 1 from rfl, sRun_s h4.is, e4, show n + 2 = n + 1 + 1 from rfl, sRun_s h5.is, e5, sRun_s h6.is, e6, sd_end h.lo (by exact h.hi)]
  refine Prod.ext ?_ rfl
  show put1 _ id (tBare (setPc (setPc (tTold (setPc (setPc (setReg (setPc (setPc (t0 kind val untl) 1) 2) u.word.t) 3) 4) kind 1 0) 6) 9)) = _
  rw [ht]
  show put1 (withSends _ (lLeave [id] id).1) id _ = _
  rw [hl3]
  rfl
end Go.Sak
namespace Go.Sak
open Go Go.RowKit
set_option linter.unusedVariables false
set_option linter.unusedSimpArgs false

end Go.Sak
