/- Part S72 of the proofs about the program: Ps2, K73. Conditions: none. -/
import Derived.Test.YtojlofaafkdhgaaGreatS67
import Derived.Test.YtojlofaafkdhgaaGreatS45
import Derived.Test.YtojlofaafkdhgaaGreatS70
import Derived.Test.YtojlofaafkdhgaaGreatS71
import Derived.Test.YtojlofaafkdhgaaGreatS04
import Derived.Test.YtojlofaafkdhgaaGreatProg
import Derived.KernelRfl
namespace Go.Sak
open Go Go.RowKit
set_option linter.unusedVariables false
set_option linter.unusedSimpArgs false

def SG (s : State) (id : Int) : Prop := ((me s id).pc = 4 → fabValue s s.word.t = (me s id).val) ∧ ((me s id).pc = 10 → s.cfg.pol = 2) ∧ s.word.t ≠ 1099511627776
def SE (s a : State) (e : Entry) : Prop :=
  ((e.kind = 1 ∨ e.kind = 2 ∨ e.kind = 3) ∧ (qSend (fabQueue s) e).2 = true ∧ fabQueue a = (qSend (fabQueue s) e).1) ∨ (e.kind = 9 ∧ (qEvict (fabQueue s) e).2 = true ∧ fabQueue a = (qEvict (fabQueue s) e).1)
def SOk (s a : State) (id : Int) : Prop :=
  a.log = s.log ∧ ((me s id).pc = 3 ∨ fabQueue a = fabQueue s) ∨ ∃ e : Entry, a.log = s.log ++ [e] ∧ e.thr = id ∧ (SG s id → SE s a e)
theorem o_stay {a s : State} {id : Int} (ha : Fab a) (hs : Fab s) (h : a.word = s.word ∧ a.slots = s.slots ∧ a.cfg = s.cfg ∧ a.log = s.log) : SOk s a id :=
  .inl ⟨h.2.2.2, .inr (fq_same ha hs h.1 h.2.1 h.2.2.1)⟩
theorem side_1 {k : Int} (hk : opSide k = 1) : k = 1 ∨ k = 2 ∨ k = 3 := by
  unfold opSide at hk
  split at hk
  · assumption
  · split at hk
    · cases hk
    · split at hk <;> cases hk
theorem o_end {s : State} {id r pc : Int} (hR : Rn s id) (hk : opSide (me s id).kind = 1) (ha : Fab (rEnds s id r pc)) (h : SG s id → (qSend (fabQueue s) ⟨id, (me s id).kind, (me s id).val, r, 0⟩).2 = true ∧ (qSend (fabQueue s) ⟨id, (me s id).kind, (me s id).val, r, 0⟩).1 = fabQueue s) : SOk s (rEnds s id r pc) id := by
  obtain ⟨t1, t2, t3, t4⟩ := tell_all (k := (me s id).kind) (r := r) (g := 0) (pc := pc) hR
  refine .inr ⟨_, t4, rfl, fun hg => .inl ⟨side_1 hk, (h hg).1, ?_⟩⟩
  rw [(h hg).2]; exact fq_same ha hR.fab t1 t2 t3
theorem late_3 {s : State} {id : Int} (hR : Rn s id) (hk : opSide (me s id).kind = 1) (hl : (me s id).late = true) : (me s id).kind = 3 := by
  have ht : tCheck (me s id) = true := hR.fab.thr _ (by unfold me; exact getD_mem (by have := hR.lo; have := hR.hi; omega))
  simp only [tCheck, tTime, tKind, opTimed, within, Bool.and_eq_true, decide_eq_true_eq] at ht
  simp only [opSide] at hk
  grind
theorem o_late {s : State} {id : Int} (hR : Rn s id) (hk : opSide (me s id).kind = 1) (hl : (me s id).late = true) (ha : Fab (rEnds s id 5 9)) : SOk s (rEnds s id 5 9) id := by
  have h3 := late_3 hR hk hl
  refine o_end hR hk ha fun _ => ?_
  unfold qSend; rw [if_neg (by simp), if_neg (by simp), if_neg (by simp)]
  exact ⟨by simp [qEnds, h3], rfl⟩
theorem acc_is {w : Word} {room : Int} (h : posCheck w room = true) : ((wAccept w room).2.2 = 7 ∧ w.m = 2 ∧ (wAccept w room).1 = w) ∨ ((wAccept w room).2.2 = 6 ∧ w.m = 1 ∧ (wAccept w room).1 = w) ∨ ((wAccept w room).2.2 = 2 ∧ w.m = 0 ∧ (posFull w room = true ∨ w.t = 1099511627776) ∧ (wAccept w room).1 = w) ∨ ((wAccept w room).2.2 = 1 ∧ w.m = 0 ∧ posFull w room = false ∧ (wAccept w room).1 = ⟨w.h, w.t + 1, w.m⟩) := by
  have hm : 0 ≤ w.m ∧ w.m ≤ 2 := by
    simp only [posCheck, within, Bool.and_eq_true, decide_eq_true_eq] at h; omega
  unfold wAccept
  by_cases h2 : w.m = 2
  · left; rw [if_pos (by simp [wHalted, h2])]; exact ⟨rfl, h2, rfl⟩
  · rw [if_neg (by simp [wHalted, h2, h])]
    by_cases h1 : w.m = 1
    · right; left; rw [if_pos h1]; exact ⟨rfl, h1, rfl⟩
    · rw [if_neg h1]
      by_cases hl : posFull w room = true ∨ w.t = 1099511627776
      · right; right; left; rw [if_pos hl]; exact ⟨rfl, by omega, hl, rfl⟩
      · right; right; right; rw [if_neg hl]; exact ⟨rfl, by omega, by cases hp : posFull w room <;> simp_all, rfl⟩
theorem fq_room {s : State} (h : Fab s) : (fabQueue s).cap = s.slots.length ∧ (fabQueue s).pol = s.cfg.pol ∧ (fabQueue s).mode = s.word.m ∧ qFull (fabQueue s) = posFull s.word s.slots.length := by
  have hp : 0 ≤ posLen s.word := by unfold posLen; have := h.wb; split; omega; split <;> omega
  rw [fq_at h]
  refine ⟨rfl, rfl, rfl, ?_⟩
  simp only [qFull, posFull, List.length_map, List.length_range]
  rw [show (((posLen s.word).toNat : Nat) : Int) = posLen s.word from by omega]
theorem o_full {s : State} {id : Int} (hR : Rn s id) (hk : opSide (me s id).kind = 1) (h2 : (wAccept s.word s.slots.length).2.2 = 2) (ha : Fab (sFull s id)) : SOk s (sFull s id) id := by
  have hp : posCheck s.word s.slots.length = true := by rw [hR.fab.len]; exact hR.fab.word
  obtain ⟨f1, f2, f3, f4⟩ := fq_room hR.fab
  have hcf : 0 ≤ s.cfg.pol ∧ s.cfg.pol ≤ 2 := by
    have := hR.fab.room
    unfold confRoom at this
    split at this
    · rename_i hc; have := room_of hc; omega
    · exact absurd rfl this
  have hw : s.word.m = 0 ∧ (posFull s.word s.slots.length = true ∨ s.word.t = 1099511627776) := by
    rcases acc_is hp with ⟨e, _⟩ | ⟨e, _⟩ | ⟨_, e1, e2, _⟩ | ⟨e, _⟩
    · omega
    · omega
    · exact ⟨e1, e2⟩
    · omega
  have hfl : SG s id → posFull s.word s.slots.length = true := fun hg => hw.2.resolve_right hg.2.2
  unfold sFull at ha ⊢
  by_cases p1 : s.cfg.pol = 1
  · rw [if_pos p1] at ha ⊢
    refine o_end hR hk ha fun hg => ?_
    unfold qSend; rw [if_neg (by simp), if_neg (by simp), if_pos rfl]
    exact ⟨by simp [f2, f3, f4, hfl hg, hw.1, p1], rfl⟩
  · rw [if_neg p1] at ha ⊢
    by_cases p2 : s.cfg.pol = 2
    · rw [if_pos p2] at ha ⊢; exact o_stay ha hR.fab ⟨rfl, rfl, rfl, rfl⟩
    · rw [if_neg p2] at ha ⊢
      by_cases k2 : (me s id).kind = 2
      · rw [if_pos k2] at ha ⊢
        refine o_end hR hk ha fun hg => ?_
        unfold qSend; rw [if_neg (by simp), if_pos rfl]
        exact ⟨by simp [f2, f3, f4, hfl hg, hw.1, k2]; omega, rfl⟩
      · rw [if_neg k2] at ha ⊢
        by_cases hl : (me s id).late = true
        · rw [if_pos hl] at ha ⊢; exact o_late hR hk hl ha
        · rw [if_neg hl] at ha ⊢
          split at ha
          · rename_i hq; rw [if_pos hq]; exact o_stay ha hR.fab ⟨rfl, rfl, rfl, rfl⟩
          · rename_i hq; rw [if_neg hq]; exact o_stay ha hR.fab ⟨rfl, rfl, rfl, rfl⟩
theorem o_over {s : State} {id : Int} (hR : Rn s id) (hk : opSide (me s id).kind = 1) (h1 : (wAccept s.word s.slots.length).2.2 ≠ 1) (h2 : (wAccept s.word s.slots.length).2.2 ≠ 2) (ha : Fab (rEnds s id (wAccept s.word s.slots.length).2.2 9)) : SOk s (rEnds s id (wAccept s.word s.slots.length).2.2 9) id := by
  have hp : posCheck s.word s.slots.length = true := by rw [hR.fab.len]; exact hR.fab.word
  obtain ⟨f1, f2, f3, f4⟩ := fq_room hR.fab
  rcases acc_is hp with ⟨e, hm, _⟩ | ⟨e, hm, _⟩ | ⟨e, _⟩ | ⟨e, _⟩
  · rw [e] at ha ⊢
    refine o_end hR hk ha fun _ => ?_
    unfold qSend; rw [if_neg (by simp), if_neg (by simp), if_neg (by simp)]
    exact ⟨by simp [qEnds, f3, hm], rfl⟩
  · rw [e] at ha ⊢
    refine o_end hR hk ha fun _ => ?_
    unfold qSend; rw [if_neg (by simp), if_neg (by simp), if_neg (by simp)]
    exact ⟨by simp [qEnds, f3, hm], rfl⟩
  · exact absurd e h2
  · exact absurd e h1
theorem pos_is {s : State} (h : Fab s) : posLen s.word = s.word.t - s.word.h := by
  have := h.wb
  unfold posLen; split
  · omega
  · rw [if_neg (by omega)]
theorem o_accept {s : State} {id : Int} (hR : Rn s id) (hk : opSide (me s id).kind = 1) (h4 : (me s id).pc = 4) (ha : Fab (sAccept s id)) : SOk s (sAccept s id) id := by
  have hp : posCheck s.word s.slots.length = true := by rw [hR.fab.len]; exact hR.fab.word
  have hw : Rn (withWord s (wAccept s.word s.slots.length).1) id := hR.wd (by rw [hR.fab.len]; exact wp_accept hR.fab.word)
  obtain ⟨f1, f2, f3, f4⟩ := fq_room hR.fab
  unfold sAccept at ha ⊢
  simp only [] at ha ⊢
  rcases acc_is hp with ⟨e, hm, hs⟩ | ⟨e, hm, hs⟩ | ⟨e, hm, _, hs⟩ | ⟨e, hm, hl, hs⟩
  · rw [hs, show withWord s s.word = s from rfl, if_neg (by omega), if_neg (by omega)] at ha ⊢
    exact o_over hR hk (by omega) (by omega) ha
  · rw [hs, show withWord s s.word = s from rfl, if_neg (by omega), if_neg (by omega)] at ha ⊢
    exact o_over hR hk (by omega) (by omega) ha
  · rw [hs, show withWord s s.word = s from rfl, if_neg (by omega), if_pos e] at ha ⊢
    exact o_stay ha hR.fab ⟨rfl, rfl, rfl, rfl⟩
  · rw [if_pos e] at ha ⊢
    obtain ⟨t1, t2, t3, t4⟩ := tell_all (k := (me s id).kind) (r := 1) (g := 0) (pc := 6) hw
    rw [hs] at ha hw t1 t2 t3 t4 ⊢
    refine .inr ⟨_, t4, rfl, fun hg => .inl ⟨side_1 hk, ?_, ?_⟩⟩
    · unfold qSend; rw [if_pos rfl]; simp [f3, f4, hm, hl]
    · have hpl := pos_is hR.fab
      have hpa := pos_is ha
      have hwb := hR.fab.wb
      have hv := hg.1 h4
      have hfv : fabValue s s.word.t = (s.slots.getD (slotAt s.slots s.word.t) default).val := by
        unfold fabValue; rw [if_neg (by simp [fab_iff.2 hR.fab]; omega)]
      rw [hfv] at hv
      obtain ⟨n, hn⟩ : ∃ n : Nat, posLen s.word = n := ⟨(posLen s.word).toNat, by omega⟩
      rw [t1] at hpa
      have hpa2 : posLen (⟨s.word.h, s.word.t + 1, s.word.m⟩ : Word) = ((n + 1 : Nat) : Int) := by
        have : posLen (⟨s.word.h, s.word.t + 1, s.word.m⟩ : Word) = s.word.t + 1 - s.word.h := hpa
        omega
      rw [fq_at ha, t1, t2, t3]
      show (⟨(List.range (posLen (⟨s.word.h, s.word.t + 1, s.word.m⟩ : Word)).toNat).map (fun (i : Nat) => (s.slots.getD (slotAt s.slots (s.word.h + (i : Int))) default).val), s.slots.length, s.cfg.pol, s.word.m⟩ : Queue) = _
      rw [hpa2, Int.toNat_natCast, List.range_succ, fq_at hR.fab, hn, Int.toNat_natCast]
      unfold qSend; rw [if_pos rfl]
      simp only [List.map_append, List.map_cons, List.map_nil]
      rw [show s.word.h + (n : Int) = s.word.t from by omega, hv]
      rfl
theorem o_evict {s : State} {id : Int} (hR : Rn s id) (hk : opSide (me s id).kind = 1) (h10 : (me s id).pc = 10) (ha : Fab (sEvict s id)) : SOk s (sEvict s id) id := by
  have hw : Rn (withWord s (wEvict s.word s.slots.length (me s id).reg).1) id := hR.wd (by rw [hR.fab.len]; exact wp_evict hR.fab.word)
  obtain ⟨f1, f2, f3, f4⟩ := fq_room hR.fab
  unfold sEvict at ha ⊢
  simp only [] at ha ⊢
  by_cases hc : ¬ (s.word.h = (me s id).reg ∧ s.word.m = 0) ∨ wHalted s.word s.slots.length = true ∨ ¬ posFull s.word s.slots.length = true ∨ posLen s.word = 0
  · have e : wEvict s.word s.slots.length (me s id).reg = (s.word, false) := by unfold wEvict; rw [if_pos hc]
    rw [e, if_pos (by simp)] at ha ⊢
    exact o_stay ha hR.fab ⟨rfl, rfl, rfl, rfl⟩
  · have e : wEvict s.word s.slots.length (me s id).reg = (⟨s.word.h + 1, s.word.t, s.word.m⟩, true) := by unfold wEvict; rw [if_neg hc]
    rw [e] at hw ha ⊢
    rw [if_neg (by simp)] at ha ⊢
    obtain ⟨t1, t2, t3, t4⟩ := tell_all (k := 9) (r := 1) (g := fabValue s (me s id).reg) (pc := 11) hw
    simp only [not_or, Classical.not_not] at hc
    obtain ⟨⟨hh, hm⟩, _, hfull, hlen⟩ := hc
    have hpl := pos_is hR.fab
    have hpa := pos_is ha
    have hwb := hR.fab.wb
    rw [t1] at hpa
    have hfv : fabValue s (me s id).reg = (s.slots.getD (slotAt s.slots s.word.h) default).val := by
      rw [← hh]; unfold fabValue; rw [if_neg (by simp [fab_iff.2 hR.fab]; omega)]
    obtain ⟨n, hn⟩ : ∃ n : Nat, posLen s.word = n + 1 := ⟨(posLen s.word - 1).toNat, by omega⟩
    have hpa2 : posLen (⟨s.word.h + 1, s.word.t, s.word.m⟩ : Word) = n := by
      have : posLen (⟨s.word.h + 1, s.word.t, s.word.m⟩ : Word) = s.word.t - (s.word.h + 1) := hpa
      omega
    have hq : fabQueue s = ⟨(s.slots.getD (slotAt s.slots s.word.h) default).val :: (List.range n).map (fun (i : Nat) => (s.slots.getD (slotAt s.slots (s.word.h + 1 + (i : Int))) default).val), s.slots.length, s.cfg.pol, s.word.m⟩ := by
      rw [fq_at hR.fab, hn, show ((n : Int) + 1).toNat = n + 1 from by omega, List.range_succ_eq_map]
      simp only [List.map_cons, List.map_map, Function.comp_def, Int.natCast_zero, Int.add_zero]
      refine congrArg (fun v => Queue.mk v s.slots.length s.cfg.pol s.word.m) (congrArg (List.cons _) (List.map_congr_left fun i _ => ?_))
      rw [show s.word.h + ((i.succ : Nat) : Int) = s.word.h + 1 + (i : Int) from by omega]
    have hF : qFirst (fabQueue s).vals (fabValue s (me s id).reg) = true := by rw [hq, hfv]; simp [qFirst]
    refine .inr ⟨_, t4, rfl, fun hg => .inr ⟨rfl, ?_, ?_⟩⟩
    · unfold qEvict; rw [if_pos hF]; simp [f2, f3, f4, hm, hfull, hg.2.1 h10]
    · unfold qEvict; rw [if_pos hF]
      rw [fq_at ha, t1, t2, t3]
      show (⟨(List.range (posLen (⟨s.word.h + 1, s.word.t, s.word.m⟩ : Word)).toNat).map (fun (i : Nat) => (s.slots.getD (slotAt s.slots (s.word.h + 1 + (i : Int))) default).val), s.slots.length, s.cfg.pol, s.word.m⟩ : Queue) = _
      rw [hpa2, Int.toNat_natCast, hq]; rfl
theorem s_queue {s : State} {id : Int} (hf : Fab s) : SOk s (sStep s id) id := by
  have ha := s_stays (id := id) hf
  cases hI : sIs s id with
  | false =>
    have : sStep s id = s := by unfold sStep; rw [if_pos (by simp [hI])]
    rw [this]; exact .inl ⟨rfl, .inr rfl⟩
  | true =>
    obtain ⟨hR, hk⟩ := sIs_iff.1 hI
    have h0 : 0 ≤ (me s id).pc := by
      have ht : tCheck (me s id) = true := hR.fab.thr _ (by unfold me; exact getD_mem (by have := hR.lo; have := hR.hi; omega))
      simp only [tCheck, tPlace, within, Bool.and_eq_true, decide_eq_true_eq] at ht
      omega
    unfold sStep at ha ⊢
    rw [if_neg (by simp [hI])] at ha ⊢
    split at ha
    · exact o_stay ha hf ⟨rfl, rfl, rfl, rfl⟩
    · unfold sFirst at ha ⊢
      split at ha
      · rename_i h; rw [if_pos h]; exact o_stay ha hf ⟨rfl, rfl, rfl, rfl⟩
      · rename_i h; rw [if_neg h]
        split at ha
        · rename_i h2; rw [if_pos h2]; exact o_late hR hk h2 ha
        · rename_i h2; rw [if_neg h2]; exact o_stay ha hf ⟨rfl, rfl, rfl, rfl⟩
    · unfold sLook at ha ⊢
      split at ha
      · rename_i h; rw [if_pos h]; exact o_stay ha hf ⟨rfl, rfl, rfl, rfl⟩
      · rename_i h; rw [if_neg h]
        split at ha
        · rename_i h2; rw [if_pos h2]; exact o_full hR hk h2 ha
        · rename_i h2; rw [if_neg h2]; exact o_over hR hk h h2 ha
    · rename_i h3
      refine .inl ⟨?_, .inl (by omega)⟩
      unfold sWrite; split <;> rfl
    · rename_i h4; exact o_accept hR hk (by omega) ha
    · exact o_stay ha hf ⟨rfl, rfl, rfl, rfl⟩
    · unfold sNotify at ha ⊢
      simp only [] at ha ⊢
      refine o_stay ha hf ?_
      split
      · obtain ⟨w1, w2, w3, w4⟩ := wake_all (s := withEmpty s (vNotify s.empty).1) (i := (vNotify s.empty).2.1)
        exact ⟨w1, w2, w3, w4⟩
      · exact ⟨rfl, rfl, rfl, rfl⟩
    · unfold sAgain at ha ⊢
      refine o_stay ha hf ?_
      split <;> exact ⟨rfl, rfl, rfl, rfl⟩
    · unfold sCommit at ha ⊢
      refine o_stay ha hf ?_
      split
      · exact ⟨rfl, rfl, rfl, rfl⟩
      · simp only []; split <;> exact ⟨rfl, rfl, rfl, rfl⟩
    · exact o_stay ha hf ⟨rfl, rfl, rfl, rfl⟩
    · rename_i h10; exact o_evict hR hk (by omega) ha
    · unfold sRelease at ha ⊢
      split at ha
      · rename_i h; rw [if_pos h]
        refine .inl ⟨rfl, .inr (fq_eq ha hf rfl slotR_len (fun i => ?_) rfl)⟩
        show ((slotRelease s.slots (me s id).reg).1.getD i default).val = _
        unfold slotRelease; split
        · rfl
        · split
          · rfl
          · show ((s.slots.set _ _).getD i default).val = _
            rw [getD_set]; split
            · rename_i h; rw [← h.1]
            · rfl
      · rename_i h; rw [if_neg h]; exact o_stay ha hf ⟨rfl, rfl, rfl, rfl⟩
    · exact .inl ⟨rfl, .inr rfl⟩
end Go.Sak
namespace Go.Sak
open Go Go.RowKit Go.Proofs
set_option linter.unusedVariables false
set_option linter.unusedSimpArgs false
set_option maxRecDepth 10000
set_option maxHeartbeats 8000000
def F9 : AFn := ⟨126, (.seq (.reg [o1 2 (.box 33 0), o1 4 (.mv (.const (.bool false)))]) (.seq (.reg [o1 11 (.call 21 []), o1 5 (.mv 11)]) (.seq (.seq (.reg [o1 12 (.ld 20 true 2), o1 13 (.call 22 [12]), o1 14 (.not 13), o1 15 (.mv 14), o4 16 (.ld 20 true 2) 15, o4 17 (.call 32 [16]) 15, o4 18 (.not 17) 15, o1 19 (.pick 15 (.const (.bool true)) 18), o1 20 (.mv 19), o4 21 (.mv 1) 20, o4 22 (.bin .lss 21 (ci 0)) 20, o1 23 (.pick 20 (.const (.bool true)) 22), o1 24 (.mv 23), o4 25 (.mv 1) 24, o4 26 (.faddr 18 2) 24, o4 27 (.ld 1 false 26) 24, o4 28 (.len 27) 24, o4 29 (.bin .geq 25 28) 24, o1 30 (.pick 24 (.const (.bool true)) 29)]) (.cond 30 (.seq (.reg [o1 31 (.mv 5), o1 4 (.mv 31)]) .ret) .skip)) (.seq (.reg [o1 32 (.faddr 18 2), o1 33 (.ld 1 false 32), o1 34 (.mv 1), o1 35 (.iaddr 11 33 34), o1 36 (.ld 11 true 35), o1 6 (.alloc 44 [(.int .i64 0), (.int .i64 0), (.int .i64 0), (.int .i64 0), (.int .i64 0), (.int .i64 0), (.int .i64 0), (.int .i64 0), (.bool false), (.int .i64 0), (.int .i64 0)]), o2 (.st 11 6 36)]) (.seq (.reg [o1 37 (.ld 20 true 2), o1 38 (.mv 1), o1 39 (.call 26 [37, 38]), o1 7 (.alloc 33 [(.int .i64 0), (.int .i64 0), (.int .i64 0), (.int .i64 0), (.int .i64 0), (.int .i64 0), (.bool false), (.int .i64 0), (.int .i64 0), (.int .i64 0), .slnil, .slnil, .slnil, (.int .i64 0), .slnil, (.int .i64 0), .slnil, (.int .i64 0), .slnil, .slnil]), o2 (.st 20 7 39)]) (.seq (.seq (.reg [o1 40 (.faddr 19 7), o1 41 (.ld 1 false 40), o1 42 (.len 41), o1 43 (.faddr 19 2), o1 44 (.ld 1 false 43), o1 45 (.len 44), o1 46 (.bin .leq 42 45)]) (.cond 46 (.seq (.regT [o1 47 (.mv 5), o1 48 (.mv 47), o3 49 (.faddr 4 6) 48, o3 50 (.ld 1 false 49) 48, o3 51 (.bin .eql 50 (ci 3)) 48, o3 52 (.mv 51) 48, o4 53 (.faddr 4 6) 52, o4 54 (.ld 1 false 53) 52, o4 55 (.bin .eql 54 (ci 11)) 52, o3 56 (.pick 52 (.const (.bool true)) 55) 48, o3 57 (.mv 56) 48, o4 58 (.ld 20 true 7) 57, o4 59 (.call 35 [58]) 57, o4 60 (.ld 20 true 2) 57, o4 61 (.call 35 [60]) 57, o4 62 (.call 36 [59, 61]) 57, o3 63 (.pick 57 (.const (.bool true)) 62) 48, o1 64 (.pick 48 63 (.const (.bool false))), o1 4 (.mv 64)] [(11, 13), (12, 13)]) .ret) .skip)) (.seq (.reg [o1 65 (.faddr 19 7), o1 66 (.ld 1 false 65), o1 67 (.faddr 19 2), o1 68 (.ld 1 false 67), o1 69 (.len 68), o1 70 (.iaddr 5 66 69), o1 71 (.ld 5 true 70), o1 8 (.alloc 61 [(.int .i64 0), (.int .i64 0), (.int .i64 0), (.int .i64 0), (.int .i64 0)]), o2 (.st 5 8 71)]) (.seq (.seq (.regT [o1 72 (.faddr 4 6), o1 73 (.ld 1 false 72), o1 74 (.bin .eql 73 (ci 4)), o1 75 (.mv 74), o3 76 (.ld 20 true 2) 75, o3 77 (.faddr 7 2) 75, o3 78 (.faddr 1 77) 75, o3 79 (.ld 1 false 78) 75, o3 80 (.call 37 [76, 79]) 75, o3 81 (.faddr 2 6) 75, o3 82 (.ld 1 false 81) 75, o3 83 (.bin .neq 80 82) 75, o1 84 (.pick 75 83 (.const (.bool false))), o1 85 (.mv 84), o4 86 (.faddr 4 6) 85, o4 87 (.ld 1 false 86) 85, o4 88 (.bin .eql 87 (ci 10)) 85, o4 89 (.mv 88) 85, o3 90 (.faddr 0 2) 89, o3 91 (.faddr 2 90) 89, o3 92 (.ld 1 false 91) 89, o3 93 (.bin .neq 92 (ci 2)) 89, o4 94 (.pick 89 93 (.const (.bool false))) 85, o1 95 (.pick 85 (.const (.bool true)) 94), o1 96 (.mv 95), o4 97 (.faddr 7 2) 96, o4 98 (.faddr 1 97) 96, o4 99 (.ld 1 false 98) 96, o4 100 (.bin .eql 99 (ci 1099511627776)) 96, o1 101 (.pick 96 (.const (.bool true)) 100)] [(4, 5), (4, 6), (4, 7), (4, 9), (5, 9), (6, 9), (7, 9), (8, 9), (4, 10), (5, 10), (6, 10), (7, 10), (8, 10)]) (.cond 101 (.seq (.reg [o1 102 (.mv 5), o1 4 (.mv 102)]) .ret) .skip)) (.seq (.regT [o1 104 (.ld 20 true 2), o1 105 (.call 35 [104]), o1 106 (.ld 5 true 8), o1 107 (.call 38 [105, 106]), o1 103 (.mv 107), o1 108 (.ext 103 0), o1 109 (.ext 103 1), o1 9 (.alloc 54 [.slnil, (.int .i64 0), (.int .i64 0), (.int .i64 0)]), o2 (.st 4 9 108), o1 10 (.mv 109)] [(0, 2), (1, 2), (0, 7), (1, 7), (2, 7), (3, 7)]) (.seq (.regT [o1 110 (.mv 5), o1 111 (.mv 110), o3 112 (.mv 10) 111, o1 113 (.pick 111 112 (.const (.bool false))), o1 114 (.mv 113), o3 115 (.ld 20 true 7) 114, o3 116 (.call 35 [115]) 114, o3 117 (.ld 4 true 9) 114, o3 118 (.call 36 [116, 117]) 114, o1 119 (.pick 114 118 (.const (.bool false))), o1 120 (.mv 119), o3 121 (.faddr 0 8) 120, o3 122 (.ld 1 false 121) 120, o3 123 (.mv 1) 120, o3 124 (.bin .eql 122 123) 120, o1 125 (.pick 120 124 (.const (.bool false))), o1 4 (.mv 125)] [(5, 7), (6, 7)]) .ret)))))))))), [(4, none)]⟩
theorem x9 : xf Tryz.prog 9 = some F9 := by kernel_rfl
set_option linter.defProp false
def qEo := And.intro (And.intro (And.intro (show ∀ e : Entry, (encE e).length = 5 from fun _ => rfl) (show ∀ e : Entry, (encE e).take 5 = encE e from fun _ => rfl)) (And.intro (show ∀ e : Entry, (encE e).all AV.one = true from fun _ => rfl) (show ∀ e : Entry, (encE e)[0]? = some (.int .i64 e.thr) from fun _ => rfl))) (And.intro (And.intro (show ∀ e : Entry, (encE e).drop 5 = [] from fun _ => rfl) (fun (L : List Nat) (x : Entry) => inNs_pure (L := L) _ (pure_encE x))) (And.intro (fun x : Entry => nmsL_pure _ (pure_encE x)) (fun (T : Tr) (x : Entry) => trs_pure T _ (pure_encE x))))
theorem con37s {s : State} {p : Int} (h : Bd s 100000000) : Con Tryz.prog 37 [.agg (encZ s), .int .i64 p] (.int .i64 (fabValue s p), [], []) := by
  obtain ⟨h1, h2, h3, h4, h5, h6, h7⟩ := h.all
  exact con37 h1 h2 h3 h4 h5 h6 h7
theorem con9 {s : State} {id : Int} : Con Tryz.prog 9 [.agg (encZ s), .int .i64 id] (.bool true, [], []) := by
  cases hf : fabCheck s with
  | false =>
    generalize hA : sStep s id = a
    refine mcb_of_vc mix x9 (by simp [F9]) fun hw _ => ?_
    clear hw
    repeat' with_reducible first | refine gTn_of (fun h => ?_) (fun h => ?_) | refine gT_of (fun h => ?_) (fun h => ?_) | refine caseTn_of (fun h => ?_) (fun h => ?_) | refine caseT_of (fun h => ?_) (fun h => ?_) | refine FN ?_ ?_ ?_ ?_ rfl ?_ | refine kv_ifn ?_ ?_ | refine kv_if ?_ ?_ | refine k_if ?_ ?_ | refine IA ?_ ?_ ?_ | refine L1 ?_ ?_ | refine L2 ?_ ?_ | refine L3 ?_ ?_ ?_ ?_ | refine L4 ?_ ?_ | refine L5 ?_ ?_ ?_ ?_ ?_ | refine L6 ?_ ?_ ?_ ?_ ?_ | refine AC.p0 (con21 ) ?_ (by simp -implicitDefEqProofs only [qU, pure_encZ]; done) ?_ ?_ | refine AC.p0 (con22s ) ?_ (by simp -implicitDefEqProofs only [qU, pure_encZ]; done) ?_ ?_ | refine AC.p0 (con32s ?_) ?_ (by simp -implicitDefEqProofs only [qU, pure_encZ]; done) ?_ ?_ | refine AC.p0 (con26s ?_) ?_ (by simp -implicitDefEqProofs only [qU, pure_encZ]; done) ?_ ?_ | refine AC.p0 (con35s ?_) ?_ (by simp -implicitDefEqProofs only [qU, pure_encZ, pure_encQ, pure_encE, pures, AV.pure, Bool.and_true]; done) ?_ ?_ | refine AC.p0 (con37s ?_) ?_ (by simp -implicitDefEqProofs only [qU, pure_encZ, pure_encQ, pure_encE, pures, AV.pure, Bool.and_true]; done) ?_ ?_ | refine AC.p0 (con36q ?_ ?_) ?_ (by simp -implicitDefEqProofs only [qU, pure_encZ, pure_encQ, pure_encE, pures, AV.pure, Bool.and_true]; done) ?_ ?_ | refine ia_of (d := default) ?_ ?_ | simp -implicitDefEqProofs only [F9, qA, ld_0, ld_pv, st_0, splice, doEqs, qU, List.reduceReplicate, Nat.reduceAdd, Nat.reduceSub, Nat.reduceLeDiff, Nat.reduceEqDiff, Nat.reduceMul, reduceIte, reduceCtorEq, qI, Nat.reduceLT, Nat.reduceBEq, up_s, Int.toNat_natCast, qZ, qC, qT, qQ, qQ2, qEo, Int.natCast_zero, Int.reduceEq, Int.reduceNe, qSame_self, Int.le_refl, *]
    all_goals first
      | exact Wk.refl _
      | omega
      | (simp only [decide_eq_false_iff_not] at *; omega)
      | exact Nat.le_trans fq_len (by omega)
      | exact (few_bd (by assumption)).mono (by omega)
      | (rw [← hA]; exact (bd_sStep (few_bd (by assumption))).mono (by omega))
      | (exfalso; have h := of_decide_eq_true (by assumption : decide (((s.log.length + 1 : Nat) : Int) ≤ (s.log.length : Int)) = true); omega)
      | (exfalso; refine hg0 ⟨fun _ => ?_, fun _ => ?_, ?_⟩ <;> simp_all [me]; done)
      | (simp [*]; done)
      | trace_state
  | true =>
    have hfl := @fq_len s
    have hfa := @fq_len (sStep s id)
    rcases s_queue (id := id) (fab_iff.1 hf) with ⟨l1, q1⟩ | ⟨⟨t, k, v, r, g⟩, l2, ht, hse⟩
    · have hl : (sStep s id).log.length = s.log.length := by rw [l1]
      rcases q1 with q1 | q1
      · simp only [me] at q1
        generalize hA : sStep s id = a at l1 hl hfa
        clear l1
        refine mcb_of_vc mix x9 (by simp [F9]) fun hw _ => ?_
        clear hw
        repeat' with_reducible first | refine gTn_of (fun h => ?_) (fun h => ?_) | refine gT_of (fun h => ?_) (fun h => ?_) | refine caseTn_of (fun h => ?_) (fun h => ?_) | refine caseT_of (fun h => ?_) (fun h => ?_) | refine FN ?_ ?_ ?_ ?_ rfl ?_ | refine kv_ifn ?_ ?_ | refine kv_if ?_ ?_ | refine k_if ?_ ?_ | refine IA ?_ ?_ ?_ | refine L1 ?_ ?_ | refine L2 ?_ ?_ | refine L3 ?_ ?_ ?_ ?_ | refine L4 ?_ ?_ | refine L5 ?_ ?_ ?_ ?_ ?_ | refine L6 ?_ ?_ ?_ ?_ ?_ | refine AC.p0 (con21 ) ?_ (by simp -implicitDefEqProofs only [qU, pure_encZ]; done) ?_ ?_ | refine AC.p0 (con22s ) ?_ (by simp -implicitDefEqProofs only [qU, pure_encZ]; done) ?_ ?_ | refine AC.p0 (con32s ?_) ?_ (by simp -implicitDefEqProofs only [qU, pure_encZ]; done) ?_ ?_ | refine AC.p0 (con26s ?_) ?_ (by simp -implicitDefEqProofs only [qU, pure_encZ]; done) ?_ ?_ | refine AC.p0 (con35s ?_) ?_ (by simp -implicitDefEqProofs only [qU, pure_encZ, pure_encQ, pure_encE, pures, AV.pure, Bool.and_true]; done) ?_ ?_ | refine AC.p0 (con37s ?_) ?_ (by simp -implicitDefEqProofs only [qU, pure_encZ, pure_encQ, pure_encE, pures, AV.pure, Bool.and_true]; done) ?_ ?_ | refine AC.p0 (con36q ?_ ?_) ?_ (by simp -implicitDefEqProofs only [qU, pure_encZ, pure_encQ, pure_encE, pures, AV.pure, Bool.and_true]; done) ?_ ?_ | refine ia_of (d := default) ?_ ?_ | simp -implicitDefEqProofs only [F9, qA, ld_0, ld_pv, st_0, splice, doEqs, qU, List.reduceReplicate, Nat.reduceAdd, Nat.reduceSub, Nat.reduceLeDiff, Nat.reduceEqDiff, Nat.reduceMul, reduceIte, reduceCtorEq, qI, Nat.reduceLT, Nat.reduceBEq, up_s, Int.toNat_natCast, qZ, qC, qT, qQ, qQ2, qEo, Int.natCast_zero, Int.reduceEq, Int.reduceNe, qSame_self, Int.le_refl, *]
        all_goals first
          | exact Wk.refl _
          | omega
          | (simp only [decide_eq_false_iff_not] at *; omega)
          | exact Nat.le_trans fq_len (by omega)
          | exact (few_bd (by assumption)).mono (by omega)
          | (rw [← hA]; exact (bd_sStep (few_bd (by assumption))).mono (by omega))
          | (exfalso; have h := of_decide_eq_true (by assumption : decide (((s.log.length + 1 : Nat) : Int) ≤ (s.log.length : Int)) = true); omega)
          | (exfalso; refine hg0 ⟨fun _ => ?_, fun _ => ?_, ?_⟩ <;> simp_all [me]; done)
          | (simp [*]; done)
          | trace_state
      · generalize hA : sStep s id = a at l1 q1 hl hfa
        clear l1
        refine mcb_of_vc mix x9 (by simp [F9]) fun hw _ => ?_
        clear hw
        repeat' with_reducible first | refine gTn_of (fun h => ?_) (fun h => ?_) | refine gT_of (fun h => ?_) (fun h => ?_) | refine caseTn_of (fun h => ?_) (fun h => ?_) | refine caseT_of (fun h => ?_) (fun h => ?_) | refine FN ?_ ?_ ?_ ?_ rfl ?_ | refine kv_ifn ?_ ?_ | refine kv_if ?_ ?_ | refine k_if ?_ ?_ | refine IA ?_ ?_ ?_ | refine L1 ?_ ?_ | refine L2 ?_ ?_ | refine L3 ?_ ?_ ?_ ?_ | refine L4 ?_ ?_ | refine L5 ?_ ?_ ?_ ?_ ?_ | refine L6 ?_ ?_ ?_ ?_ ?_ | refine AC.p0 (con21 ) ?_ (by simp -implicitDefEqProofs only [qU, pure_encZ]; done) ?_ ?_ | refine AC.p0 (con22s ) ?_ (by simp -implicitDefEqProofs only [qU, pure_encZ]; done) ?_ ?_ | refine AC.p0 (con32s ?_) ?_ (by simp -implicitDefEqProofs only [qU, pure_encZ]; done) ?_ ?_ | refine AC.p0 (con26s ?_) ?_ (by simp -implicitDefEqProofs only [qU, pure_encZ]; done) ?_ ?_ | refine AC.p0 (con35s ?_) ?_ (by simp -implicitDefEqProofs only [qU, pure_encZ, pure_encQ, pure_encE, pures, AV.pure, Bool.and_true]; done) ?_ ?_ | refine AC.p0 (con37s ?_) ?_ (by simp -implicitDefEqProofs only [qU, pure_encZ, pure_encQ, pure_encE, pures, AV.pure, Bool.and_true]; done) ?_ ?_ | refine AC.p0 (con36q ?_ ?_) ?_ (by simp -implicitDefEqProofs only [qU, pure_encZ, pure_encQ, pure_encE, pures, AV.pure, Bool.and_true]; done) ?_ ?_ | refine ia_of (d := default) ?_ ?_ | simp -implicitDefEqProofs only [F9, qA, ld_0, ld_pv, st_0, splice, doEqs, qU, List.reduceReplicate, Nat.reduceAdd, Nat.reduceSub, Nat.reduceLeDiff, Nat.reduceEqDiff, Nat.reduceMul, reduceIte, reduceCtorEq, qI, Nat.reduceLT, Nat.reduceBEq, up_s, Int.toNat_natCast, qZ, qC, qT, qQ, qQ2, qEo, Int.natCast_zero, Int.reduceEq, Int.reduceNe, qSame_self, Int.le_refl, *]
        all_goals first
          | exact Wk.refl _
          | omega
          | (simp only [decide_eq_false_iff_not] at *; omega)
          | exact Nat.le_trans fq_len (by omega)
          | exact (few_bd (by assumption)).mono (by omega)
          | (rw [← hA]; exact (bd_sStep (few_bd (by assumption))).mono (by omega))
          | (exfalso; have h := of_decide_eq_true (by assumption : decide (((s.log.length + 1 : Nat) : Int) ≤ (s.log.length : Int)) = true); omega)
          | (exfalso; refine hg0 ⟨fun _ => ?_, fun _ => ?_, ?_⟩ <;> simp_all [me]; done)
          | (simp [*]; done)
          | trace_state
    · have hl : (sStep s id).log.length = s.log.length + 1 := by rw [l2]; simp
      have hg : (sStep s id).log.getD s.log.length default = ⟨t, k, v, r, g⟩ := by rw [l2]; simp [List.getD_eq_getElem?_getD]
      simp only [] at ht
      subst ht
      by_cases hg0 : SG s t
      · rcases hse hg0 with ⟨hk, m1, q2⟩ | ⟨hk, m1, q2⟩
        · simp only [] at hk
          have hput : qPut (fabQueue s) (qSend (fabQueue s) ⟨t, k, v, r, g⟩) = (fabQueue (sStep s t), true) := by
            unfold qPut; rw [if_pos m1, q2]; exact Prod.ext rfl m1
          clear hse hg0
          generalize hA : sStep s t = a at l2 q2 hl hg hput hfa
          clear l2 q2 m1
          rcases hk with rfl | rfl | rfl
          · refine mcb_of_vc mix x9 (by simp [F9]) fun hw _ => ?_
            clear hw
            repeat' with_reducible first | refine gTn_of (fun h => ?_) (fun h => ?_) | refine gT_of (fun h => ?_) (fun h => ?_) | refine caseTn_of (fun h => ?_) (fun h => ?_) | refine caseT_of (fun h => ?_) (fun h => ?_) | refine FN ?_ ?_ ?_ ?_ rfl ?_ | refine kv_ifn ?_ ?_ | refine kv_if ?_ ?_ | refine k_if ?_ ?_ | refine IA ?_ ?_ ?_ | refine L1 ?_ ?_ | refine L2 ?_ ?_ | refine L3 ?_ ?_ ?_ ?_ | refine L4 ?_ ?_ | refine L5 ?_ ?_ ?_ ?_ ?_ | refine L6 ?_ ?_ ?_ ?_ ?_ | refine AC.p0 (con21 ) ?_ (by simp -implicitDefEqProofs only [qU, pure_encZ]; done) ?_ ?_ | refine AC.p0 (con22s ) ?_ (by simp -implicitDefEqProofs only [qU, pure_encZ]; done) ?_ ?_ | refine AC.p0 (con32s ?_) ?_ (by simp -implicitDefEqProofs only [qU, pure_encZ]; done) ?_ ?_ | refine AC.p0 (con26s ?_) ?_ (by simp -implicitDefEqProofs only [qU, pure_encZ]; done) ?_ ?_ | refine AC.p0 (con35s ?_) ?_ (by simp -implicitDefEqProofs only [qU, pure_encZ, pure_encQ, pure_encE, pures, AV.pure, Bool.and_true]; done) ?_ ?_ | refine AC.p0 (con37s ?_) ?_ (by simp -implicitDefEqProofs only [qU, pure_encZ, pure_encQ, pure_encE, pures, AV.pure, Bool.and_true]; done) ?_ ?_ | refine AC.p0 (con36q ?_ ?_) ?_ (by simp -implicitDefEqProofs only [qU, pure_encZ, pure_encQ, pure_encE, pures, AV.pure, Bool.and_true]; done) ?_ ?_ | refine ia_of (d := default) ?_ ?_ | refine AC.p0 (con38_1 ?_) ?_ (by simp -implicitDefEqProofs only [qU, pure_encZ, pure_encQ, pure_encE, pures, AV.pure, Bool.and_true]; done) ?_ ?_ | simp -implicitDefEqProofs only [F9, qA, ld_0, ld_pv, st_0, splice, doEqs, qU, List.reduceReplicate, Nat.reduceAdd, Nat.reduceSub, Nat.reduceLeDiff, Nat.reduceEqDiff, Nat.reduceMul, reduceIte, reduceCtorEq, qI, Nat.reduceLT, Nat.reduceBEq, up_s, Int.toNat_natCast, qZ, qC, qT, qQ, qQ2, qEo, Int.natCast_zero, Int.reduceEq, Int.reduceNe, qSame_self, Int.le_refl, *]
            all_goals first
              | exact Wk.refl _
              | omega
              | (simp only [decide_eq_false_iff_not] at *; omega)
              | exact Nat.le_trans fq_len (by omega)
              | exact (few_bd (by assumption)).mono (by omega)
              | (rw [← hA]; exact (bd_sStep (few_bd (by assumption))).mono (by omega))
              | (exfalso; have h := of_decide_eq_true (by assumption : decide (((s.log.length + 1 : Nat) : Int) ≤ (s.log.length : Int)) = true); omega)
              | (exfalso; refine hg0 ⟨fun _ => ?_, fun _ => ?_, ?_⟩ <;> simp_all [me]; done)
              | (simp [*]; done)
              | trace_state
          · refine mcb_of_vc mix x9 (by simp [F9]) fun hw _ => ?_
            clear hw
            repeat' with_reducible first | refine gTn_of (fun h => ?_) (fun h => ?_) | refine gT_of (fun h => ?_) (fun h => ?_) | refine caseTn_of (fun h => ?_) (fun h => ?_) | refine caseT_of (fun h => ?_) (fun h => ?_) | refine FN ?_ ?_ ?_ ?_ rfl ?_ | refine kv_ifn ?_ ?_ | refine kv_if ?_ ?_ | refine k_if ?_ ?_ | refine IA ?_ ?_ ?_ | refine L1 ?_ ?_ | refine L2 ?_ ?_ | refine L3 ?_ ?_ ?_ ?_ | refine L4 ?_ ?_ | refine L5 ?_ ?_ ?_ ?_ ?_ | refine L6 ?_ ?_ ?_ ?_ ?_ | refine AC.p0 (con21 ) ?_ (by simp -implicitDefEqProofs only [qU, pure_encZ]; done) ?_ ?_ | refine AC.p0 (con22s ) ?_ (by simp -implicitDefEqProofs only [qU, pure_encZ]; done) ?_ ?_ | refine AC.p0 (con32s ?_) ?_ (by simp -implicitDefEqProofs only [qU, pure_encZ]; done) ?_ ?_ | refine AC.p0 (con26s ?_) ?_ (by simp -implicitDefEqProofs only [qU, pure_encZ]; done) ?_ ?_ | refine AC.p0 (con35s ?_) ?_ (by simp -implicitDefEqProofs only [qU, pure_encZ, pure_encQ, pure_encE, pures, AV.pure, Bool.and_true]; done) ?_ ?_ | refine AC.p0 (con37s ?_) ?_ (by simp -implicitDefEqProofs only [qU, pure_encZ, pure_encQ, pure_encE, pures, AV.pure, Bool.and_true]; done) ?_ ?_ | refine AC.p0 (con36q ?_ ?_) ?_ (by simp -implicitDefEqProofs only [qU, pure_encZ, pure_encQ, pure_encE, pures, AV.pure, Bool.and_true]; done) ?_ ?_ | refine ia_of (d := default) ?_ ?_ | refine AC.p0 (con38_2 ?_) ?_ (by simp -implicitDefEqProofs only [qU, pure_encZ, pure_encQ, pure_encE, pures, AV.pure, Bool.and_true]; done) ?_ ?_ | simp -implicitDefEqProofs only [F9, qA, ld_0, ld_pv, st_0, splice, doEqs, qU, List.reduceReplicate, Nat.reduceAdd, Nat.reduceSub, Nat.reduceLeDiff, Nat.reduceEqDiff, Nat.reduceMul, reduceIte, reduceCtorEq, qI, Nat.reduceLT, Nat.reduceBEq, up_s, Int.toNat_natCast, qZ, qC, qT, qQ, qQ2, qEo, Int.natCast_zero, Int.reduceEq, Int.reduceNe, qSame_self, Int.le_refl, *]
            all_goals first
              | exact Wk.refl _
              | omega
              | (simp only [decide_eq_false_iff_not] at *; omega)
              | exact Nat.le_trans fq_len (by omega)
              | exact (few_bd (by assumption)).mono (by omega)
              | (rw [← hA]; exact (bd_sStep (few_bd (by assumption))).mono (by omega))
              | (exfalso; have h := of_decide_eq_true (by assumption : decide (((s.log.length + 1 : Nat) : Int) ≤ (s.log.length : Int)) = true); omega)
              | (exfalso; refine hg0 ⟨fun _ => ?_, fun _ => ?_, ?_⟩ <;> simp_all [me]; done)
              | (simp [*]; done)
              | trace_state
          · refine mcb_of_vc mix x9 (by simp [F9]) fun hw _ => ?_
            clear hw
            repeat' with_reducible first | refine gTn_of (fun h => ?_) (fun h => ?_) | refine gT_of (fun h => ?_) (fun h => ?_) | refine caseTn_of (fun h => ?_) (fun h => ?_) | refine caseT_of (fun h => ?_) (fun h => ?_) | refine FN ?_ ?_ ?_ ?_ rfl ?_ | refine kv_ifn ?_ ?_ | refine kv_if ?_ ?_ | refine k_if ?_ ?_ | refine IA ?_ ?_ ?_ | refine L1 ?_ ?_ | refine L2 ?_ ?_ | refine L3 ?_ ?_ ?_ ?_ | refine L4 ?_ ?_ | refine L5 ?_ ?_ ?_ ?_ ?_ | refine L6 ?_ ?_ ?_ ?_ ?_ | refine AC.p0 (con21 ) ?_ (by simp -implicitDefEqProofs only [qU, pure_encZ]; done) ?_ ?_ | refine AC.p0 (con22s ) ?_ (by simp -implicitDefEqProofs only [qU, pure_encZ]; done) ?_ ?_ | refine AC.p0 (con32s ?_) ?_ (by simp -implicitDefEqProofs only [qU, pure_encZ]; done) ?_ ?_ | refine AC.p0 (con26s ?_) ?_ (by simp -implicitDefEqProofs only [qU, pure_encZ]; done) ?_ ?_ | refine AC.p0 (con35s ?_) ?_ (by simp -implicitDefEqProofs only [qU, pure_encZ, pure_encQ, pure_encE, pures, AV.pure, Bool.and_true]; done) ?_ ?_ | refine AC.p0 (con37s ?_) ?_ (by simp -implicitDefEqProofs only [qU, pure_encZ, pure_encQ, pure_encE, pures, AV.pure, Bool.and_true]; done) ?_ ?_ | refine AC.p0 (con36q ?_ ?_) ?_ (by simp -implicitDefEqProofs only [qU, pure_encZ, pure_encQ, pure_encE, pures, AV.pure, Bool.and_true]; done) ?_ ?_ | refine ia_of (d := default) ?_ ?_ | refine AC.p0 (con38_3 ?_) ?_ (by simp -implicitDefEqProofs only [qU, pure_encZ, pure_encQ, pure_encE, pures, AV.pure, Bool.and_true]; done) ?_ ?_ | simp -implicitDefEqProofs only [F9, qA, ld_0, ld_pv, st_0, splice, doEqs, qU, List.reduceReplicate, Nat.reduceAdd, Nat.reduceSub, Nat.reduceLeDiff, Nat.reduceEqDiff, Nat.reduceMul, reduceIte, reduceCtorEq, qI, Nat.reduceLT, Nat.reduceBEq, up_s, Int.toNat_natCast, qZ, qC, qT, qQ, qQ2, qEo, Int.natCast_zero, Int.reduceEq, Int.reduceNe, qSame_self, Int.le_refl, *]
            all_goals first
              | exact Wk.refl _
              | omega
              | (simp only [decide_eq_false_iff_not] at *; omega)
              | exact Nat.le_trans fq_len (by omega)
              | exact (few_bd (by assumption)).mono (by omega)
              | (rw [← hA]; exact (bd_sStep (few_bd (by assumption))).mono (by omega))
              | (exfalso; have h := of_decide_eq_true (by assumption : decide (((s.log.length + 1 : Nat) : Int) ≤ (s.log.length : Int)) = true); omega)
              | (exfalso; refine hg0 ⟨fun _ => ?_, fun _ => ?_, ?_⟩ <;> simp_all [me]; done)
              | (simp [*]; done)
              | trace_state
        · simp only [] at hk
          have hput : qPut (fabQueue s) (qEvict (fabQueue s) ⟨t, k, v, r, g⟩) = (fabQueue (sStep s t), true) := by
            unfold qPut; rw [if_pos m1, q2]; exact Prod.ext rfl m1
          clear hse hg0
          generalize hA : sStep s t = a at l2 q2 hl hg hput hfa
          clear l2 q2 m1
          subst hk
          refine mcb_of_vc mix x9 (by simp [F9]) fun hw _ => ?_
          clear hw
          repeat' with_reducible first | refine gTn_of (fun h => ?_) (fun h => ?_) | refine gT_of (fun h => ?_) (fun h => ?_) | refine caseTn_of (fun h => ?_) (fun h => ?_) | refine caseT_of (fun h => ?_) (fun h => ?_) | refine FN ?_ ?_ ?_ ?_ rfl ?_ | refine kv_ifn ?_ ?_ | refine kv_if ?_ ?_ | refine k_if ?_ ?_ | refine IA ?_ ?_ ?_ | refine L1 ?_ ?_ | refine L2 ?_ ?_ | refine L3 ?_ ?_ ?_ ?_ | refine L4 ?_ ?_ | refine L5 ?_ ?_ ?_ ?_ ?_ | refine L6 ?_ ?_ ?_ ?_ ?_ | refine AC.p0 (con21 ) ?_ (by simp -implicitDefEqProofs only [qU, pure_encZ]; done) ?_ ?_ | refine AC.p0 (con22s ) ?_ (by simp -implicitDefEqProofs only [qU, pure_encZ]; done) ?_ ?_ | refine AC.p0 (con32s ?_) ?_ (by simp -implicitDefEqProofs only [qU, pure_encZ]; done) ?_ ?_ | refine AC.p0 (con26s ?_) ?_ (by simp -implicitDefEqProofs only [qU, pure_encZ]; done) ?_ ?_ | refine AC.p0 (con35s ?_) ?_ (by simp -implicitDefEqProofs only [qU, pure_encZ, pure_encQ, pure_encE, pures, AV.pure, Bool.and_true]; done) ?_ ?_ | refine AC.p0 (con37s ?_) ?_ (by simp -implicitDefEqProofs only [qU, pure_encZ, pure_encQ, pure_encE, pures, AV.pure, Bool.and_true]; done) ?_ ?_ | refine AC.p0 (con36q ?_ ?_) ?_ (by simp -implicitDefEqProofs only [qU, pure_encZ, pure_encQ, pure_encE, pures, AV.pure, Bool.and_true]; done) ?_ ?_ | refine ia_of (d := default) ?_ ?_ | refine AC.p0 (con38_9 ?_) ?_ (by simp -implicitDefEqProofs only [qU, pure_encZ, pure_encQ, pure_encE, pures, AV.pure, Bool.and_true]; done) ?_ ?_ | simp -implicitDefEqProofs only [F9, qA, ld_0, ld_pv, st_0, splice, doEqs, qU, List.reduceReplicate, Nat.reduceAdd, Nat.reduceSub, Nat.reduceLeDiff, Nat.reduceEqDiff, Nat.reduceMul, reduceIte, reduceCtorEq, qI, Nat.reduceLT, Nat.reduceBEq, up_s, Int.toNat_natCast, qZ, qC, qT, qQ, qQ2, qEo, Int.natCast_zero, Int.reduceEq, Int.reduceNe, qSame_self, Int.le_refl, *]
          all_goals first
            | exact Wk.refl _
            | omega
            | (simp only [decide_eq_false_iff_not] at *; omega)
            | exact Nat.le_trans fq_len (by omega)
            | exact (few_bd (by assumption)).mono (by omega)
            | (rw [← hA]; exact (bd_sStep (few_bd (by assumption))).mono (by omega))
            | (exfalso; have h := of_decide_eq_true (by assumption : decide (((s.log.length + 1 : Nat) : Int) ≤ (s.log.length : Int)) = true); omega)
            | (exfalso; refine hg0 ⟨fun _ => ?_, fun _ => ?_, ?_⟩ <;> simp_all [me]; done)
            | (simp [*]; done)
            | trace_state
      · clear hse
        generalize hA : sStep s t = a at l2 hl hg hfa
        clear l2
        refine mcb_of_vc mix x9 (by simp [F9]) fun hw _ => ?_
        clear hw
        repeat' with_reducible first | refine gTn_of (fun h => ?_) (fun h => ?_) | refine gT_of (fun h => ?_) (fun h => ?_) | refine caseTn_of (fun h => ?_) (fun h => ?_) | refine caseT_of (fun h => ?_) (fun h => ?_) | refine FN ?_ ?_ ?_ ?_ rfl ?_ | refine kv_ifn ?_ ?_ | refine kv_if ?_ ?_ | refine k_if ?_ ?_ | refine IA ?_ ?_ ?_ | refine L1 ?_ ?_ | refine L2 ?_ ?_ | refine L3 ?_ ?_ ?_ ?_ | refine L4 ?_ ?_ | refine L5 ?_ ?_ ?_ ?_ ?_ | refine L6 ?_ ?_ ?_ ?_ ?_ | refine AC.p0 (con21 ) ?_ (by simp -implicitDefEqProofs only [qU, pure_encZ]; done) ?_ ?_ | refine AC.p0 (con22s ) ?_ (by simp -implicitDefEqProofs only [qU, pure_encZ]; done) ?_ ?_ | refine AC.p0 (con32s ?_) ?_ (by simp -implicitDefEqProofs only [qU, pure_encZ]; done) ?_ ?_ | refine AC.p0 (con26s ?_) ?_ (by simp -implicitDefEqProofs only [qU, pure_encZ]; done) ?_ ?_ | refine AC.p0 (con35s ?_) ?_ (by simp -implicitDefEqProofs only [qU, pure_encZ, pure_encQ, pure_encE, pures, AV.pure, Bool.and_true]; done) ?_ ?_ | refine AC.p0 (con37s ?_) ?_ (by simp -implicitDefEqProofs only [qU, pure_encZ, pure_encQ, pure_encE, pures, AV.pure, Bool.and_true]; done) ?_ ?_ | refine AC.p0 (con36q ?_ ?_) ?_ (by simp -implicitDefEqProofs only [qU, pure_encZ, pure_encQ, pure_encE, pures, AV.pure, Bool.and_true]; done) ?_ ?_ | refine ia_of (d := default) ?_ ?_ | simp -implicitDefEqProofs only [F9, qA, ld_0, ld_pv, st_0, splice, doEqs, qU, List.reduceReplicate, Nat.reduceAdd, Nat.reduceSub, Nat.reduceLeDiff, Nat.reduceEqDiff, Nat.reduceMul, reduceIte, reduceCtorEq, qI, Nat.reduceLT, Nat.reduceBEq, up_s, Int.toNat_natCast, qZ, qC, qT, qQ, qQ2, qEo, Int.natCast_zero, Int.reduceEq, Int.reduceNe, qSame_self, Int.le_refl, *]
        all_goals first
          | exact Wk.refl _
          | omega
          | (simp only [decide_eq_false_iff_not] at *; omega)
          | exact Nat.le_trans fq_len (by omega)
          | exact (few_bd (by assumption)).mono (by omega)
          | (rw [← hA]; exact (bd_sStep (few_bd (by assumption))).mono (by omega))
          | (exfalso; have h := of_decide_eq_true (by assumption : decide (((s.log.length + 1 : Nat) : Int) ≤ (s.log.length : Int)) = true); omega)
          | (exfalso; refine hg0 ⟨fun _ => ?_, fun _ => ?_, ?_⟩ <;> simp_all [me]; done)
          | (simp [*]; done)
          | trace_state

end Go.Sak
