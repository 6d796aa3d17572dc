/- Part S43 of the proofs about the program: K43. Conditions: none. -/
import Derived.Test.YtojlofaafkdhgaaGreatS42
import Derived.Test.YtojlofaafkdhgaaGreatS47
import Derived.Test.YtojlofaafkdhgaaGreatS04
import Derived.Test.YtojlofaafkdhgaaGreatProg
import Derived.KernelRfl
namespace Go.Sak
open Go Go.RowKit Go.Proofs
set_option linter.unusedVariables false
set_option linter.unusedSimpArgs false
set_option maxRecDepth 10000
set_option maxHeartbeats 8000000
def C30_8 : ACode := (.seq (.reg [o1 95 (.mv 5), o1 4 (.mv 95)]) .ret)
def C30_7 : ACode := (.seq (.seq (.reg [o1 76 (.faddr 15 2), o1 77 (.faddr 0 76), o1 78 (.ld 1 false 77), o1 79 (.faddr 15 3), o1 80 (.faddr 0 79), o1 81 (.ld 1 false 80), o1 82 (.bin .neq 78 81), o1 83 (.mv 82), o4 84 (.faddr 15 2) 83, o4 85 (.faddr 1 84) 83, o4 86 (.ld 1 false 85) 83, o4 87 (.faddr 15 3) 83, o4 88 (.faddr 1 87) 83, o4 89 (.ld 1 false 88) 83, o4 90 (.call 88 [86, 89]) 83, o4 91 (.not 90) 83, o1 92 (.pick 83 (.const (.bool true)) 91)]) (.cond 92 (.reg [o1 93 (.mv 5), o1 94 (.bin .add 93 (ci 1)), o1 5 (.mv 94)]) .skip)) C30_8)
def C30_6 : ACode := (.seq (.seq (.reg [o1 57 (.faddr 13 2), o1 58 (.faddr 0 57), o1 59 (.ld 1 false 58), o1 60 (.faddr 13 3), o1 61 (.faddr 0 60), o1 62 (.ld 1 false 61), o1 63 (.bin .neq 59 62), o1 64 (.mv 63), o4 65 (.faddr 13 2) 64, o4 66 (.faddr 1 65) 64, o4 67 (.ld 1 false 66) 64, o4 68 (.faddr 13 3) 64, o4 69 (.faddr 1 68) 64, o4 70 (.ld 1 false 69) 64, o4 71 (.call 88 [67, 70]) 64, o4 72 (.not 71) 64, o1 73 (.pick 64 (.const (.bool true)) 72)]) (.cond 73 (.reg [o1 74 (.mv 5), o1 75 (.bin .add 74 (ci 1)), o1 5 (.mv 75)]) .skip)) C30_7)
def C30_5 : ACode := (.seq (.seq (.reg [o1 49 (.faddr 12 2), o1 50 (.ld 1 false 49), o1 51 (.faddr 12 3), o1 52 (.ld 1 false 51), o1 53 (.call 88 [50, 52]), o1 54 (.not 53)]) (.cond 54 (.reg [o1 55 (.mv 5), o1 56 (.bin .add 55 (ci 1)), o1 5 (.mv 56)]) .skip)) C30_6)
def C30_4 : ACode := (.seq (.seq (.reg [o1 41 (.faddr 11 2), o1 42 (.ld 1 false 41), o1 43 (.faddr 11 3), o1 44 (.ld 1 false 43), o1 45 (.call 88 [42, 44]), o1 46 (.not 45)]) (.cond 46 (.reg [o1 47 (.mv 5), o1 48 (.bin .add 47 (ci 1)), o1 5 (.mv 48)]) .skip)) C30_5)
def C30_3 : ACode := (.seq (.seq (.reg [o1 6 (.mv (ci 0))]) (.block 0 (.loop (.seq (.seq (.reg [o1 14 (.mv 6), o1 15 (.faddr 10 2), o1 16 (.ld 1 false 15), o1 17 (.len 16), o1 18 (.bin .lss 14 17), o1 19 (.mv 18), o3 20 (.mv 6) 19, o3 21 (.faddr 10 3) 19, o3 22 (.ld 1 false 21) 19, o3 23 (.len 22) 19, o3 24 (.bin .lss 20 23) 19, o1 25 (.pick 19 24 (.const (.bool false)))]) (.cond 25 .skip (.exit 0))) (.seq (.block 1 (.seq (.regT [o1 28 (.faddr 10 2), o1 29 (.ld 1 false 28), o1 30 (.mv 6), o1 31 (.iaddr 2 29 30), o1 32 (.ld 2 true 31), o1 33 (.faddr 10 3), o1 34 (.ld 1 false 33), o1 35 (.mv 6), o1 36 (.iaddr 2 34 35), o1 37 (.ld 2 true 36), o1 38 (.eqs true [(.int .i64), (.int .i64)] 32 37)] [(0, 5), (1, 5), (3, 5), (4, 5), (0, 6), (1, 6), (3, 6), (4, 6), (0, 8), (1, 8), (3, 8), (4, 8), (0, 9), (1, 9), (3, 9), (4, 9)]) (.cond 38 (.reg [o1 39 (.mv 5), o1 40 (.bin .add 39 (ci 1)), o1 5 (.mv 40)]) .skip))) (.reg [o1 26 (.mv 6), o1 27 (.bin .add 26 (ci 1)), o1 6 (.mv 27)])))))) C30_4)
def F30 : AFn := ⟨96, (.seq (.reg [o1 2 (.box 33 0), o1 3 (.box 33 1), o1 4 (.mv (ci 0))]) (.seq (.reg [o1 5 (.mv (ci 0))]) (.seq (.seq (.reg [o1 7 (.faddr 7 2), o1 8 (.ld 3 true 7), o1 9 (.faddr 7 3), o1 10 (.ld 3 true 9), o1 11 (.eqs true [(.int .i64), (.int .i64), (.int .i64)] 8 10)]) (.cond 11 (.reg [o1 12 (.mv 5), o1 13 (.bin .add 12 (ci 1)), o1 5 (.mv 13)]) .skip)) C30_3))), [(4, none)]⟩
theorem x30 : xf Tryz.prog 30 = some F30 := by kernel_rfl
theorem cntS_le (a b : List Slot) : ∀ n, cntS a b n ≤ n
  | 0 => Nat.le_refl 0
  | n + 1 => by have := cntS_le a b n; simp only [cntS]; split <;> omega
theorem ev_dec (a b : Event) : decide (a = b) = (decide (a.ep = b.ep) && decide (a.ln = b.ln)) := by
  cases a; cases b; simp [Bool.decide_and]
def th4 (s u : State) : Int := bif decide (s.empty.ep = u.empty.ep) && decide (s.empty.ln = u.empty.ln) then 0 else 1
def th3 (s u : State) : Int := (bif decide (s.full.ep = u.full.ep) && decide (s.full.ln = u.full.ln) then 0 else 1) + th4 s u
def th2 (s u : State) : Int := (bif decide (s.recvs = u.recvs) then 0 else 1) + th3 s u
def th1 (s u : State) : Int := (bif decide (s.sends = u.sends) then 0 else 1) + th2 s u
theorem things_eq (s u : State) : things s u = (bif decide (s.word = u.word) then 0 else 1) + ((cntS s.slots u.slots (min s.slots.length u.slots.length) : Nat) : Int) + th1 s u := by
  unfold th1 th2 th3 th4
  rw [← ev_dec, ← ev_dec]
  simp only [things, Bool.cond_decide]; omega
theorem mt_nl : ∀ (n : Nat) (l : List AV), l.length = n → Mt (nl n []) l
  | 0, [], _ => trivial
  | n + 1, x :: l, h => by rw [nl_s, mt_none]; exact mt_nl n l (by simpa using h)
theorem wk_int {x y : Int} (h : y = x) : Wk (.int .i64 x) (.int .i64 y) := by subst h; exact Wk.refl _
theorem wr1 {c : Int} (h : 0 ≤ c ∧ c ≤ 2000000000) : IntKind.wrap .i64 (c + 1) = c + 1 := wrap64 (by omega) (by omega)
theorem cut30_8 {s u : State} (hs : Bd s 10000000) (hu : Bd u 10000000) {y0 y1 y4 : AV} {ys : List AV} {b : Nat} (hb : 1 ≤ b) {c : Int} (hc : 0 ≤ c ∧ c ≤ 1000000000 + 8) {v : Int} (hT : c + 0 = v) (hl : ys.length = 90) : vc Tryz.prog 1 C30_8 (retK [(4, none)] (FinS 1 [] (.int .i64 v, [], []))) (y0 :: y1 :: .ptr 2 0 0 :: .ptr 3 0 0 :: y4 :: .int .i64 c :: ys) [(2, .rows 33 20 [encZ s]), (3, .rows 33 20 [encZ u])] b := by
  have hm : Mt (nl 2 (some (.ptr 2 0 0) :: some (.ptr 3 0 0) :: nl 1 (some (.int .i64 c) :: nl 90 []))) (y0 :: y1 :: .ptr 2 0 0 :: .ptr 3 0 0 :: y4 :: .int .i64 c :: ys) := by
    simp only [nl_s, nl_0, mt_none, mt_some, true_and]; exact mt_nl _ _ hl
  refine Mt.all (Q := fun env => vc Tryz.prog 1 C30_8 (retK [(4, none)] (FinS 1 [] (.int .i64 v, [], []))) env [(2, .rows 33 20 [encZ s]), (3, .rows 33 20 [encZ u])] b) ?_ hm
  have hs1 := hs.all
  have hu1 := hu.all
  have w1 := wr1 (c := c) (by omega)
  clear hm hl
  simp only [all_some, all_none, all_nil, nl_s, nl_0]
  intros
  repeat' with_reducible first | refine gTn_of (fun h => ?_) (fun h => ?_) | refine gT_of (fun h => ?_) (fun h => ?_) | refine caseTn_of (fun h => ?_) (fun h => ?_) | refine caseT_of (fun h => ?_) (fun h => ?_) | refine FN ?_ ?_ ?_ ?_ rfl ?_ | refine kv_ifn ?_ ?_ | refine kv_if ?_ ?_ | refine k_if ?_ ?_ | refine IA ?_ ?_ ?_ | refine L1 ?_ ?_ | refine L2 ?_ ?_ | refine L3 ?_ ?_ ?_ ?_ | refine L4 ?_ ?_ | refine L5 ?_ ?_ ?_ ?_ ?_ | refine L6 ?_ ?_ ?_ ?_ ?_ | refine P0 (con88 ?_) ?_ ?_ ?_ | simp -implicitDefEqProofs only [F30, qA, ld_0, ld_pv, st_0, splice, doEqs, qU, List.reduceReplicate, Nat.reduceAdd, Nat.reduceSub, Nat.reduceLeDiff, Nat.reduceEqDiff, Nat.reduceMul, reduceIte, reduceCtorEq, qI, Nat.reduceLT, Nat.reduceBEq, up_s, Int.toNat_natCast, encT, qZ, nl_s, nl_0, qC, qT, qK, ceq_S, ceq_W, lm_normal, lm_exit, lm_ret, Int.natCast_zero, C30_8, *]
  all_goals first
    | rfl
    | omega
    | (refine wk_int ?_; omega)
    | (simp only [Int.add_zero, cond_true, cond_false, Bool.and_true, Bool.and_false, Bool.true_and, Bool.false_and, Int.zero_add, *] at hT; omega)
    | (simp -implicitDefEqProofs only [qA, ld_0, ld_pv, st_0, splice, doEqs, qU, List.reduceReplicate, Nat.reduceAdd, Nat.reduceSub, Nat.reduceLeDiff, Nat.reduceEqDiff, Nat.reduceMul, reduceIte, reduceCtorEq, qI, Nat.reduceLT, Nat.reduceBEq, qZ, nl_s, nl_0, qC]; first | done | (simp; done))
    | trace_state

theorem cut30_7 {s u : State} (hs : Bd s 10000000) (hu : Bd u 10000000) {y0 y1 y4 : AV} {ys : List AV} {b : Nat} (hb : 1 ≤ b) {c : Int} (hc : 0 ≤ c ∧ c ≤ 1000000000 + 7) {v : Int} (hT : c + th4 s u = v) (hl : ys.length = 90) : vc Tryz.prog 1 C30_7 (retK [(4, none)] (FinS 1 [] (.int .i64 v, [], []))) (y0 :: y1 :: .ptr 2 0 0 :: .ptr 3 0 0 :: y4 :: .int .i64 c :: ys) [(2, .rows 33 20 [encZ s]), (3, .rows 33 20 [encZ u])] b := by
  have hm : Mt (nl 2 (some (.ptr 2 0 0) :: some (.ptr 3 0 0) :: nl 1 (some (.int .i64 c) :: nl 90 []))) (y0 :: y1 :: .ptr 2 0 0 :: .ptr 3 0 0 :: y4 :: .int .i64 c :: ys) := by
    simp only [nl_s, nl_0, mt_none, mt_some, true_and]; exact mt_nl _ _ hl
  refine Mt.all (Q := fun env => vc Tryz.prog 1 C30_7 (retK [(4, none)] (FinS 1 [] (.int .i64 v, [], []))) env [(2, .rows 33 20 [encZ s]), (3, .rows 33 20 [encZ u])] b) ?_ hm
  have hs1 := hs.all
  have hu1 := hu.all
  have w1 := wr1 (c := c) (by omega)
  clear hm hl
  simp only [all_some, all_none, all_nil, nl_s, nl_0]
  intros
  repeat' with_reducible first | refine gTn_of (fun h => ?_) (fun h => ?_) | refine gT_of (fun h => ?_) (fun h => ?_) | refine caseTn_of (fun h => ?_) (fun h => ?_) | refine caseT_of (fun h => ?_) (fun h => ?_) | refine FN ?_ ?_ ?_ ?_ rfl ?_ | refine kv_ifn ?_ ?_ | refine kv_if ?_ ?_ | refine k_if ?_ ?_ | refine IA ?_ ?_ ?_ | refine L1 ?_ ?_ | refine L2 ?_ ?_ | refine L3 ?_ ?_ ?_ ?_ | refine L4 ?_ ?_ | refine L5 ?_ ?_ ?_ ?_ ?_ | refine L6 ?_ ?_ ?_ ?_ ?_ | refine cut30_8 hs hu ?_ ?_ ?_ ?_ | refine P0 (con88 ?_) ?_ ?_ ?_ | simp -implicitDefEqProofs only [F30, qA, ld_0, ld_pv, st_0, splice, doEqs, qU, List.reduceReplicate, Nat.reduceAdd, Nat.reduceSub, Nat.reduceLeDiff, Nat.reduceEqDiff, Nat.reduceMul, reduceIte, reduceCtorEq, qI, Nat.reduceLT, Nat.reduceBEq, up_s, Int.toNat_natCast, encT, qZ, nl_s, nl_0, qC, qT, qK, ceq_S, ceq_W, lm_normal, lm_exit, lm_ret, Int.natCast_zero, C30_7, *]
  all_goals first
    | rfl
    | omega
    | (refine wk_int ?_; omega)
    | (simp only [th4, cond_true, cond_false, Bool.and_true, Bool.and_false, Bool.true_and, Bool.false_and, Int.zero_add, *] at hT; omega)
    | (simp -implicitDefEqProofs only [qA, ld_0, ld_pv, st_0, splice, doEqs, qU, List.reduceReplicate, Nat.reduceAdd, Nat.reduceSub, Nat.reduceLeDiff, Nat.reduceEqDiff, Nat.reduceMul, reduceIte, reduceCtorEq, qI, Nat.reduceLT, Nat.reduceBEq, qZ, nl_s, nl_0, qC]; first | done | (simp; done))
    | trace_state

theorem cut30_6 {s u : State} (hs : Bd s 10000000) (hu : Bd u 10000000) {y0 y1 y4 : AV} {ys : List AV} {b : Nat} (hb : 1 ≤ b) {c : Int} (hc : 0 ≤ c ∧ c ≤ 1000000000 + 6) {v : Int} (hT : c + th3 s u = v) (hl : ys.length = 90) : vc Tryz.prog 1 C30_6 (retK [(4, none)] (FinS 1 [] (.int .i64 v, [], []))) (y0 :: y1 :: .ptr 2 0 0 :: .ptr 3 0 0 :: y4 :: .int .i64 c :: ys) [(2, .rows 33 20 [encZ s]), (3, .rows 33 20 [encZ u])] b := by
  have hm : Mt (nl 2 (some (.ptr 2 0 0) :: some (.ptr 3 0 0) :: nl 1 (some (.int .i64 c) :: nl 90 []))) (y0 :: y1 :: .ptr 2 0 0 :: .ptr 3 0 0 :: y4 :: .int .i64 c :: ys) := by
    simp only [nl_s, nl_0, mt_none, mt_some, true_and]; exact mt_nl _ _ hl
  refine Mt.all (Q := fun env => vc Tryz.prog 1 C30_6 (retK [(4, none)] (FinS 1 [] (.int .i64 v, [], []))) env [(2, .rows 33 20 [encZ s]), (3, .rows 33 20 [encZ u])] b) ?_ hm
  have hs1 := hs.all
  have hu1 := hu.all
  have w1 := wr1 (c := c) (by omega)
  clear hm hl
  simp only [all_some, all_none, all_nil, nl_s, nl_0]
  intros
  repeat' with_reducible first | refine gTn_of (fun h => ?_) (fun h => ?_) | refine gT_of (fun h => ?_) (fun h => ?_) | refine caseTn_of (fun h => ?_) (fun h => ?_) | refine caseT_of (fun h => ?_) (fun h => ?_) | refine FN ?_ ?_ ?_ ?_ rfl ?_ | refine kv_ifn ?_ ?_ | refine kv_if ?_ ?_ | refine k_if ?_ ?_ | refine IA ?_ ?_ ?_ | refine L1 ?_ ?_ | refine L2 ?_ ?_ | refine L3 ?_ ?_ ?_ ?_ | refine L4 ?_ ?_ | refine L5 ?_ ?_ ?_ ?_ ?_ | refine L6 ?_ ?_ ?_ ?_ ?_ | refine cut30_7 hs hu ?_ ?_ ?_ ?_ | refine P0 (con88 ?_) ?_ ?_ ?_ | simp -implicitDefEqProofs only [F30, qA, ld_0, ld_pv, st_0, splice, doEqs, qU, List.reduceReplicate, Nat.reduceAdd, Nat.reduceSub, Nat.reduceLeDiff, Nat.reduceEqDiff, Nat.reduceMul, reduceIte, reduceCtorEq, qI, Nat.reduceLT, Nat.reduceBEq, up_s, Int.toNat_natCast, encT, qZ, nl_s, nl_0, qC, qT, qK, ceq_S, ceq_W, lm_normal, lm_exit, lm_ret, Int.natCast_zero, C30_6, *]
  all_goals first
    | rfl
    | omega
    | (refine wk_int ?_; omega)
    | (simp only [th3, cond_true, cond_false, Bool.and_true, Bool.and_false, Bool.true_and, Bool.false_and, Int.zero_add, *] at hT; omega)
    | (simp -implicitDefEqProofs only [qA, ld_0, ld_pv, st_0, splice, doEqs, qU, List.reduceReplicate, Nat.reduceAdd, Nat.reduceSub, Nat.reduceLeDiff, Nat.reduceEqDiff, Nat.reduceMul, reduceIte, reduceCtorEq, qI, Nat.reduceLT, Nat.reduceBEq, qZ, nl_s, nl_0, qC]; first | done | (simp; done))
    | trace_state

theorem cut30_5 {s u : State} (hs : Bd s 10000000) (hu : Bd u 10000000) {y0 y1 y4 : AV} {ys : List AV} {b : Nat} (hb : 1 ≤ b) {c : Int} (hc : 0 ≤ c ∧ c ≤ 1000000000 + 5) {v : Int} (hT : c + th2 s u = v) (hl : ys.length = 90) : vc Tryz.prog 1 C30_5 (retK [(4, none)] (FinS 1 [] (.int .i64 v, [], []))) (y0 :: y1 :: .ptr 2 0 0 :: .ptr 3 0 0 :: y4 :: .int .i64 c :: ys) [(2, .rows 33 20 [encZ s]), (3, .rows 33 20 [encZ u])] b := by
  have hm : Mt (nl 2 (some (.ptr 2 0 0) :: some (.ptr 3 0 0) :: nl 1 (some (.int .i64 c) :: nl 90 []))) (y0 :: y1 :: .ptr 2 0 0 :: .ptr 3 0 0 :: y4 :: .int .i64 c :: ys) := by
    simp only [nl_s, nl_0, mt_none, mt_some, true_and]; exact mt_nl _ _ hl
  refine Mt.all (Q := fun env => vc Tryz.prog 1 C30_5 (retK [(4, none)] (FinS 1 [] (.int .i64 v, [], []))) env [(2, .rows 33 20 [encZ s]), (3, .rows 33 20 [encZ u])] b) ?_ hm
  have hs1 := hs.all
  have hu1 := hu.all
  have w1 := wr1 (c := c) (by omega)
  clear hm hl
  simp only [all_some, all_none, all_nil, nl_s, nl_0]
  intros
  repeat' with_reducible first | refine gTn_of (fun h => ?_) (fun h => ?_) | refine gT_of (fun h => ?_) (fun h => ?_) | refine caseTn_of (fun h => ?_) (fun h => ?_) | refine caseT_of (fun h => ?_) (fun h => ?_) | refine FN ?_ ?_ ?_ ?_ rfl ?_ | refine kv_ifn ?_ ?_ | refine kv_if ?_ ?_ | refine k_if ?_ ?_ | refine IA ?_ ?_ ?_ | refine L1 ?_ ?_ | refine L2 ?_ ?_ | refine L3 ?_ ?_ ?_ ?_ | refine L4 ?_ ?_ | refine L5 ?_ ?_ ?_ ?_ ?_ | refine L6 ?_ ?_ ?_ ?_ ?_ | refine cut30_6 hs hu ?_ ?_ ?_ ?_ | refine P0 (con88 ?_) ?_ ?_ ?_ | simp -implicitDefEqProofs only [F30, qA, ld_0, ld_pv, st_0, splice, doEqs, qU, List.reduceReplicate, Nat.reduceAdd, Nat.reduceSub, Nat.reduceLeDiff, Nat.reduceEqDiff, Nat.reduceMul, reduceIte, reduceCtorEq, qI, Nat.reduceLT, Nat.reduceBEq, up_s, Int.toNat_natCast, encT, qZ, nl_s, nl_0, qC, qT, qK, ceq_S, ceq_W, lm_normal, lm_exit, lm_ret, Int.natCast_zero, C30_5, *]
  all_goals first
    | rfl
    | omega
    | (refine wk_int ?_; omega)
    | (simp only [th2, cond_true, cond_false, Bool.and_true, Bool.and_false, Bool.true_and, Bool.false_and, Int.zero_add, *] at hT; omega)
    | (simp -implicitDefEqProofs only [qA, ld_0, ld_pv, st_0, splice, doEqs, qU, List.reduceReplicate, Nat.reduceAdd, Nat.reduceSub, Nat.reduceLeDiff, Nat.reduceEqDiff, Nat.reduceMul, reduceIte, reduceCtorEq, qI, Nat.reduceLT, Nat.reduceBEq, qZ, nl_s, nl_0, qC]; first | done | (simp; done))
    | trace_state

theorem cut30_4 {s u : State} (hs : Bd s 10000000) (hu : Bd u 10000000) {y0 y1 y4 : AV} {ys : List AV} {b : Nat} (hb : 1 ≤ b) {c : Int} (hc : 0 ≤ c ∧ c ≤ 1000000000 + 4) {v : Int} (hT : c + th1 s u = v) (hl : ys.length = 90) : vc Tryz.prog 1 C30_4 (retK [(4, none)] (FinS 1 [] (.int .i64 v, [], []))) (y0 :: y1 :: .ptr 2 0 0 :: .ptr 3 0 0 :: y4 :: .int .i64 c :: ys) [(2, .rows 33 20 [encZ s]), (3, .rows 33 20 [encZ u])] b := by
  have hm : Mt (nl 2 (some (.ptr 2 0 0) :: some (.ptr 3 0 0) :: nl 1 (some (.int .i64 c) :: nl 90 []))) (y0 :: y1 :: .ptr 2 0 0 :: .ptr 3 0 0 :: y4 :: .int .i64 c :: ys) := by
    simp only [nl_s, nl_0, mt_none, mt_some, true_and]; exact mt_nl _ _ hl
  refine Mt.all (Q := fun env => vc Tryz.prog 1 C30_4 (retK [(4, none)] (FinS 1 [] (.int .i64 v, [], []))) env [(2, .rows 33 20 [encZ s]), (3, .rows 33 20 [encZ u])] b) ?_ hm
  have hs1 := hs.all
  have hu1 := hu.all
  have w1 := wr1 (c := c) (by omega)
  clear hm hl
  simp only [all_some, all_none, all_nil, nl_s, nl_0]
  intros
  repeat' with_reducible first | refine gTn_of (fun h => ?_) (fun h => ?_) | refine gT_of (fun h => ?_) (fun h => ?_) | refine caseTn_of (fun h => ?_) (fun h => ?_) | refine caseT_of (fun h => ?_) (fun h => ?_) | refine FN ?_ ?_ ?_ ?_ rfl ?_ | refine kv_ifn ?_ ?_ | refine kv_if ?_ ?_ | refine k_if ?_ ?_ | refine IA ?_ ?_ ?_ | refine L1 ?_ ?_ | refine L2 ?_ ?_ | refine L3 ?_ ?_ ?_ ?_ | refine L4 ?_ ?_ | refine L5 ?_ ?_ ?_ ?_ ?_ | refine L6 ?_ ?_ ?_ ?_ ?_ | refine cut30_5 hs hu ?_ ?_ ?_ ?_ | refine P0 (con88 ?_) ?_ ?_ ?_ | simp -implicitDefEqProofs only [F30, qA, ld_0, ld_pv, st_0, splice, doEqs, qU, List.reduceReplicate, Nat.reduceAdd, Nat.reduceSub, Nat.reduceLeDiff, Nat.reduceEqDiff, Nat.reduceMul, reduceIte, reduceCtorEq, qI, Nat.reduceLT, Nat.reduceBEq, up_s, Int.toNat_natCast, encT, qZ, nl_s, nl_0, qC, qT, qK, ceq_S, ceq_W, lm_normal, lm_exit, lm_ret, Int.natCast_zero, C30_4, *]
  all_goals first
    | rfl
    | omega
    | (refine wk_int ?_; omega)
    | (simp only [th1, cond_true, cond_false, Bool.and_true, Bool.and_false, Bool.true_and, Bool.false_and, Int.zero_add, *] at hT; omega)
    | (simp -implicitDefEqProofs only [qA, ld_0, ld_pv, st_0, splice, doEqs, qU, List.reduceReplicate, Nat.reduceAdd, Nat.reduceSub, Nat.reduceLeDiff, Nat.reduceEqDiff, Nat.reduceMul, reduceIte, reduceCtorEq, qI, Nat.reduceLT, Nat.reduceBEq, qZ, nl_s, nl_0, qC]; first | done | (simp; done))
    | trace_state

theorem cut30_3 {s u : State} (hs : Bd s 10000000) (hu : Bd u 10000000) {y0 y1 y4 : AV} {ys : List AV} {b : Nat} (hb : 18 ≤ b) {n0 : Int} (hn0 : 0 ≤ n0 ∧ n0 ≤ 1) {v : Int} (hT : n0 + ((cntS s.slots u.slots (min s.slots.length u.slots.length) : Nat) : Int) + th1 s u = v) (hl : ys.length = 90) : vc Tryz.prog 1 C30_3 (retK [(4, none)] (FinS 1 [] (.int .i64 v, [], []))) (y0 :: y1 :: .ptr 1 0 0 :: .ptr 17 0 0 :: y4 :: .int .i64 n0 :: ys) [(1, .rows 33 20 [encZ s]), (17, .rows 33 20 [encZ u])] b := by
  have hm : Mt (nl 2 (some (.ptr 1 0 0) :: some (.ptr 17 0 0) :: nl 1 (some (.int .i64 n0) :: nl 90 []))) (y0 :: y1 :: .ptr 1 0 0 :: .ptr 17 0 0 :: y4 :: .int .i64 n0 :: ys) := by
    simp only [nl_s, nl_0, mt_none, mt_some, true_and]; exact mt_nl _ _ hl
  refine Mt.all (Q := fun env => vc Tryz.prog 1 C30_3 (retK [(4, none)] (FinS 1 [] (.int .i64 v, [], []))) env [(1, .rows 33 20 [encZ s]), (17, .rows 33 20 [encZ u])] b) ?_ hm
  have hs1 := hs.all
  have hu1 := hu.all
  clear hm hl
  simp only [all_some, all_none, all_nil, nl_s, nl_0]
  intros
  repeat' with_reducible first | refine gTn_of (fun h => ?_) (fun h => ?_) | refine gT_of (fun h => ?_) (fun h => ?_) | refine caseTn_of (fun h => ?_) (fun h => ?_) | refine caseT_of (fun h => ?_) (fun h => ?_) | refine FN ?_ ?_ ?_ ?_ rfl ?_ | refine kv_ifn ?_ ?_ | refine kv_if ?_ ?_ | refine k_if ?_ ?_ | refine IA ?_ ?_ ?_ | refine L1 ?_ ?_ | refine L2 ?_ ?_ | refine L3 ?_ ?_ ?_ ?_ | refine L4 ?_ ?_ | refine L5 ?_ ?_ ?_ ?_ ?_ | refine L6 ?_ ?_ ?_ ?_ ?_ | refine P0 (con88 ?_) ?_ ?_ ?_ | simp -implicitDefEqProofs only [F30, qA, ld_0, ld_pv, st_0, splice, doEqs, qU, List.reduceReplicate, Nat.reduceAdd, Nat.reduceSub, Nat.reduceLeDiff, Nat.reduceEqDiff, Nat.reduceMul, reduceIte, reduceCtorEq, qI, Nat.reduceLT, Nat.reduceBEq, up_s, Int.toNat_natCast, encT, qZ, nl_s, nl_0, qC, qT, qK, ceq_S, ceq_W, lm_normal, lm_exit, lm_ret, Int.natCast_zero, C30_3, *]
  refine lm_of 5 (fun t : Nat × Int => nl 2 (some (.ptr 2 0 0) :: some (.ptr 3 0 0) :: nl 1 (some (.int .i64 t.2) :: some (.int .i64 t.1) :: nl 89 []))) (fun _ => [(2, .rows 33 20 [encZ s]), (3, .rows 33 20 [encZ u])]) (fun t => t.1 ≤ min s.slots.length u.slots.length ∧ t.2 = n0 + (cntS s.slots u.slots t.1 : Nat)) (fun t => min s.slots.length u.slots.length - t.1) [] [(1, 2), (17, 3)] (0, n0) (by omega) ?_ ?_ ?_ ?_ ?_ ?_
  rotate_right
  · rintro ⟨i, c⟩ ⟨hi, hJ⟩
    simp only [] at hi hJ
    have hc := cntS_le s.slots u.slots i
    have hc0 : 0 ≤ c ∧ c ≤ 1000000 * 100 := by omega
    have w1 := wr1 (c := c) (by omega)
    have hJ2 : ∀ k : Nat, k = i → c = n0 + (cntS s.slots u.slots k : Nat) := fun k e => by rw [e]; exact hJ
    clear hJ
    simp only [all_some, all_none, all_nil, nl_s, nl_0]
    intros
    repeat' with_reducible first | refine gTn_of (fun h => ?_) (fun h => ?_) | refine gT_of (fun h => ?_) (fun h => ?_) | refine caseTn_of (fun h => ?_) (fun h => ?_) | refine caseT_of (fun h => ?_) (fun h => ?_) | refine FN ?_ ?_ ?_ ?_ rfl ?_ | refine kv_ifn ?_ ?_ | refine kv_if ?_ ?_ | refine k_if ?_ ?_ | refine IA ?_ ?_ ?_ | refine L1 ?_ ?_ | refine L2 ?_ ?_ | refine L3 ?_ ?_ ?_ ?_ | refine L4 ?_ ?_ | refine L5 ?_ ?_ ?_ ?_ ?_ | refine L6 ?_ ?_ ?_ ?_ ?_ | refine P0 (con88 ?_) ?_ ?_ ?_ | refine ia_of (d := default) ?_ ?_ | refine rm_of [] [(2, 2), (3, 3)] (i + 1, n0 + (cntS s.slots u.slots (i + 1) : Nat)) ?_ ?_ ?_ ?_ ?_ ?_ | refine cut30_4 hs hu ?_ ?_ ?_ ?_ | simp -implicitDefEqProofs only [F30, qA, ld_0, ld_pv, st_0, splice, doEqs, qU, List.reduceReplicate, Nat.reduceAdd, Nat.reduceSub, Nat.reduceLeDiff, Nat.reduceEqDiff, Nat.reduceMul, reduceIte, reduceCtorEq, qI, Nat.reduceLT, Nat.reduceBEq, up_s, Int.toNat_natCast, encT, qZ, nl_s, nl_0, qC, qT, qK, ceq_S, ceq_W, lm_normal, lm_exit, lm_ret, Int.natCast_zero, *]
    all_goals first
      | rfl
      | omega
      | (have hJ := hJ2 i rfl
         simp only [decide_eq_true_eq, decide_eq_false_iff_not] at *
         first
         | omega
         | (refine ⟨?_, wrap64 (by omega) (by omega)⟩
            simp only [cntS, *, reduceIte, Nat.add_zero]
            first
            | done
            | omega
            | (rw [wrap64 (by omega) (by omega)]; omega))
         | (rw [show min s.slots.length u.slots.length = i from by omega] at hT; omega))
      | (simp -implicitDefEqProofs only [qA, ld_0, ld_pv, st_0, splice, doEqs, qU, List.reduceReplicate, Nat.reduceAdd, Nat.reduceSub, Nat.reduceLeDiff, Nat.reduceEqDiff, Nat.reduceMul, reduceIte, reduceCtorEq, qI, Nat.reduceLT, Nat.reduceBEq, qZ, nl_s, nl_0, qC]; first | done | (simp; done))
      | trace_state
  all_goals first
    | omega
    | (simp -implicitDefEqProofs only [qA, ld_0, ld_pv, st_0, splice, doEqs, qU, List.reduceReplicate, Nat.reduceAdd, Nat.reduceSub, Nat.reduceLeDiff, Nat.reduceEqDiff, Nat.reduceMul, reduceIte, reduceCtorEq, qI, Nat.reduceLT, Nat.reduceBEq, qZ, nl_s, nl_0, qC]; first | done | (simp; done))
    | exact ⟨Nat.zero_le _, by simp [cntS]⟩
    | trace_state

theorem con30 {s u : State} (hs : Bd s 10000000) (hu : Bd u 10000000) : Con Tryz.prog 30 [.agg (encZ s), .agg (encZ u)] (.int .i64 (things s u), [], []) := by
  have hT := (things_eq s u).symm
  generalize things s u = v at hT ⊢
  cases hW : decide (s.word = u.word)
  all_goals
    rw [hW] at hT
    simp only [cond_true, cond_false] at hT
    refine mcb_of_vc mix x30 (by simp [F30]) fun hw _ => ?_
    clear hw
    repeat' with_reducible first | refine gTn_of (fun h => ?_) (fun h => ?_) | refine gT_of (fun h => ?_) (fun h => ?_) | refine caseTn_of (fun h => ?_) (fun h => ?_) | refine caseT_of (fun h => ?_) (fun h => ?_) | refine FN ?_ ?_ ?_ ?_ rfl ?_ | refine kv_ifn ?_ ?_ | refine kv_if ?_ ?_ | refine k_if ?_ ?_ | refine IA ?_ ?_ ?_ | refine L1 ?_ ?_ | refine L2 ?_ ?_ | refine L3 ?_ ?_ ?_ ?_ | refine L4 ?_ ?_ | refine L5 ?_ ?_ ?_ ?_ ?_ | refine L6 ?_ ?_ ?_ ?_ ?_ | refine cut30_3 hs hu ?_ ?_ ?_ ?_ | simp -implicitDefEqProofs only [F30, qA, ld_0, ld_pv, st_0, splice, doEqs, qU, List.reduceReplicate, Nat.reduceAdd, Nat.reduceSub, Nat.reduceLeDiff, Nat.reduceEqDiff, Nat.reduceMul, reduceIte, reduceCtorEq, qI, Nat.reduceLT, Nat.reduceBEq, up_s, Int.toNat_natCast, encT, qZ, nl_s, nl_0, qC, qT, qK, ceq_S, ceq_W, lm_normal, lm_exit, lm_ret, Int.natCast_zero, hW, *]
    all_goals first
      | rfl
      | omega
      | exact hT
      | (rw [show IntKind.wrap .i64 (0 + 1) = 1 from by decide]; exact hT)
      | decide
      | (simp -implicitDefEqProofs only [qA, ld_0, ld_pv, st_0, splice, doEqs, qU, List.reduceReplicate, Nat.reduceAdd, Nat.reduceSub, Nat.reduceLeDiff, Nat.reduceEqDiff, Nat.reduceMul, reduceIte, reduceCtorEq, qI, Nat.reduceLT, Nat.reduceBEq, qZ, nl_s, nl_0, qC]; first | done | (simp; done))
      | trace_state

end Go.Sak
