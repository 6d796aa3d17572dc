/- Part S70 of the proofs about the program: K71, K72. Conditions: none. -/
import Derived.Test.YtojlofaafkdhgaaGreatS69
import Derived.Test.YtojlofaafkdhgaaGreatS67
import Derived.Test.YtojlofaafkdhgaaGreatS04
import Derived.Test.YtojlofaafkdhgaaGreatProg
import Derived.KernelRfl
import Derived.Test.YtojlofaafkdhgaaGreatS60
namespace Go.Sak
open Go Go.RowKit Go.Proofs
set_option linter.unusedVariables false
set_option linter.unusedSimpArgs false
set_option maxRecDepth 10000
set_option maxHeartbeats 8000000
def F36 : AFn := ⟨33, (.seq (.reg [o1 2 (.box 54 0), o1 3 (.box 54 1), o1 4 (.mv (.const (.bool false)))]) (.seq (.reg [o1 6 (.faddr 0 2), o1 7 (.ld 1 false 6), o1 8 (.faddr 0 3), o1 9 (.ld 1 false 8), o1 10 (.call 52 [7, 9]), o1 5 (.mv 10)]) (.seq (.reg [o1 11 (.mv 5), o1 12 (.mv 11), o3 13 (.faddr 1 2) 12, o3 14 (.ld 1 false 13) 12, o3 15 (.faddr 1 3) 12, o3 16 (.ld 1 false 15) 12, o3 17 (.bin .eql 14 16) 12, o1 18 (.pick 12 17 (.const (.bool false))), o1 19 (.mv 18), o3 20 (.faddr 2 2) 19, o3 21 (.ld 1 false 20) 19, o3 22 (.faddr 2 3) 19, o3 23 (.ld 1 false 22) 19, o3 24 (.bin .eql 21 23) 19, o1 25 (.pick 19 24 (.const (.bool false))), o1 26 (.mv 25), o3 27 (.faddr 3 2) 26, o3 28 (.ld 1 false 27) 26, o3 29 (.faddr 3 3) 26, o3 30 (.ld 1 false 29) 26, o3 31 (.bin .eql 28 30) 26, o1 32 (.pick 26 31 (.const (.bool false))), o1 4 (.mv 32)]) .ret))), [(4, none)]⟩
theorem x36 : xf Tryz.prog 36 = some F36 := by kernel_rfl
def qSame (a b : Queue) : Bool := decide (a.vals = b.vals) && decide (a.cap = b.cap) && decide (a.pol = b.pol) && decide (a.mode = b.mode)
theorem qSame_self (q : Queue) : qSame q q = true := by simp [qSame]
theorem fq_len {s : State} : (fabQueue s).vals.length ≤ 64 := by
  by_cases h : fabCheck s = true
  · rw [fabQueue_t h]; have := fab_word h; simp only [qVals_len]; omega
  · unfold fabQueue; rw [if_pos h]; simp
theorem con36q {a b : Queue} (ha : a.vals.length ≤ 1000) (hb : b.vals.length ≤ 1000) : Con Tryz.prog 36 [.agg (encQ a), .agg (encQ b)] (.bool (qSame a b), [], []) := by
  refine mcb_of_vc mix x36 (by simp [F36]) fun hw _ => ?_
  clear hw
  repeat' with_reducible first | refine gTn_of (fun h => ?_) (fun h => ?_) | refine gT_of (fun h => ?_) (fun h => ?_) | refine caseTn_of (fun h => ?_) (fun h => ?_) | refine caseT_of (fun h => ?_) (fun h => ?_) | refine FN ?_ ?_ ?_ ?_ rfl ?_ | refine kv_ifn ?_ ?_ | refine kv_if ?_ ?_ | refine k_if ?_ ?_ | refine IA ?_ ?_ ?_ | refine L1 ?_ ?_ | refine L2 ?_ ?_ | refine L3 ?_ ?_ ?_ ?_ | refine L4 ?_ ?_ | refine L5 ?_ ?_ ?_ ?_ ?_ | refine L6 ?_ ?_ ?_ ?_ ?_ | refine ACV.of (con52 ?_) ?_ ?_ ?_ | refine AC.p0 (con52 ?_) ?_ (by simp -implicitDefEqProofs only [qU, pure_encZ]; done) ?_ ?_ | simp -implicitDefEqProofs only [F36, qA, ld_0, ld_pv, st_0, splice, doEqs, qU, List.reduceReplicate, Nat.reduceAdd, Nat.reduceSub, Nat.reduceLeDiff, Nat.reduceEqDiff, Nat.reduceMul, reduceIte, reduceCtorEq, qI, Nat.reduceLT, Nat.reduceBEq, up_s, Int.toNat_natCast, encT, qZ, encQ, *]
  all_goals first
    | omega
    | (refine Wk.of_eq ?_; simp only [qSame] at *; grind)
    | (refine Wk.of_eq ?_; simp only [qSame]; simp [*]; done)
    | trace_state

end Go.Sak
namespace Go.Sak
open Go Go.RowKit Go.Proofs
set_option linter.unusedVariables false
set_option linter.unusedSimpArgs false
set_option maxRecDepth 10000
set_option maxHeartbeats 8000000
def F20 : AFn := ⟨79, (.seq (.reg [o1 2 (.box 33 0), o1 4 (.mv (.const (.bool false)))]) (.seq (.reg [o1 10 (.call 39 []), o1 5 (.mv 10)]) (.seq (.seq (.reg [o1 11 (.ld 20 true 2), o1 12 (.call 22 [11]), o1 13 (.not 12), o1 14 (.mv 13), o4 15 (.ld 20 true 2) 14, o4 16 (.call 32 [15]) 14, o4 17 (.not 16) 14, o1 18 (.pick 14 (.const (.bool true)) 17), o1 19 (.mv 18), o4 20 (.mv 1) 19, o4 21 (.bin .lss 20 (ci 0)) 19, o1 22 (.pick 19 (.const (.bool true)) 21), o1 23 (.mv 22), o4 24 (.mv 1) 23, o4 25 (.faddr 18 2) 23, o4 26 (.ld 1 false 25) 23, o4 27 (.len 26) 23, o4 28 (.bin .geq 24 27) 23, o1 29 (.pick 23 (.const (.bool true)) 28)]) (.cond 29 (.seq (.reg [o1 30 (.mv 5), o1 4 (.mv 30)]) .ret) .skip)) (.seq (.reg [o1 31 (.ld 20 true 2), o1 32 (.mv 1), o1 33 (.call 42 [31, 32]), o1 6 (.alloc 33 [(.int .i64 0), (.int .i64 0), (.int .i64 0), (.int .i64 0), (.int .i64 0), (.int .i64 0), (.bool false), (.int .i64 0), (.int .i64 0), (.int .i64 0), .slnil, .slnil, .slnil, (.int .i64 0), .slnil, (.int .i64 0), .slnil, (.int .i64 0), .slnil, .slnil]), o2 (.st 20 6 33)]) (.seq (.seq (.reg [o1 34 (.faddr 19 6), o1 35 (.ld 1 false 34), o1 36 (.len 35), o1 37 (.faddr 19 2), o1 38 (.ld 1 false 37), o1 39 (.len 38), o1 40 (.bin .leq 36 39)]) (.cond 40 (.seq (.regT [o1 41 (.mv 5), o1 42 (.mv 41), o3 43 (.ld 20 true 6) 42, o3 44 (.call 35 [43]) 42, o3 45 (.ld 20 true 2) 42, o3 46 (.call 35 [45]) 42, o3 47 (.call 36 [44, 46]) 42, o1 48 (.pick 42 47 (.const (.bool false))), o1 4 (.mv 48)] [(2, 4), (3, 4)]) .ret) .skip)) (.seq (.reg [o1 49 (.faddr 19 6), o1 50 (.ld 1 false 49), o1 51 (.faddr 19 2), o1 52 (.ld 1 false 51), o1 53 (.len 52), o1 54 (.iaddr 5 50 53), o1 55 (.ld 5 true 54), o1 7 (.alloc 61 [(.int .i64 0), (.int .i64 0), (.int .i64 0), (.int .i64 0), (.int .i64 0)]), o2 (.st 5 7 55)]) (.seq (.regT [o1 57 (.ld 20 true 2), o1 58 (.call 35 [57]), o1 59 (.ld 5 true 7), o1 60 (.call 38 [58, 59]), o1 56 (.mv 60), o1 61 (.ext 56 0), o1 62 (.ext 56 1), o1 8 (.alloc 54 [.slnil, (.int .i64 0), (.int .i64 0), (.int .i64 0)]), o2 (.st 4 8 61), o1 9 (.mv 62)] [(0, 2), (1, 2), (0, 7), (1, 7), (2, 7), (3, 7)]) (.seq (.regT [o1 63 (.mv 5), o1 64 (.mv 63), o3 65 (.mv 9) 64, o1 66 (.pick 64 65 (.const (.bool false))), o1 67 (.mv 66), o3 68 (.ld 20 true 6) 67, o3 69 (.call 35 [68]) 67, o3 70 (.ld 4 true 8) 67, o3 71 (.call 36 [69, 70]) 67, o1 72 (.pick 67 71 (.const (.bool false))), o1 73 (.mv 72), o3 74 (.faddr 0 7) 73, o3 75 (.ld 1 false 74) 73, o3 76 (.mv 1) 73, o3 77 (.bin .eql 75 76) 73, o1 78 (.pick 73 77 (.const (.bool false))), o1 4 (.mv 78)] [(5, 7), (6, 7)]) .ret)))))))), [(4, none)]⟩
theorem x20 : xf Tryz.prog 20 = some F20 := by kernel_rfl
set_option linter.defProp false
def qEn := And.intro (And.intro (And.intro (show ∀ e : Entry, (encE e).length = 5 from fun _ => rfl) (show ∀ e : Entry, (encE e).take 5 = encE e from fun _ => rfl)) (And.intro (show ∀ e : Entry, (encE e).all AV.one = true from fun _ => rfl) (show ∀ e : Entry, (encE e)[0]? = some (.int .i64 e.thr) from fun _ => rfl))) (And.intro (And.intro (show ∀ e : Entry, (encE e).drop 5 = [] from fun _ => rfl) (fun (L : List Nat) (x : Entry) => inNs_pure (L := L) _ (pure_encE x))) (And.intro (fun x : Entry => nmsL_pure _ (pure_encE x)) (fun (T : Tr) (x : Entry) => trs_pure T _ (pure_encE x))))
theorem con20 {s : State} {id : Int} : Con Tryz.prog 20 [.agg (encZ s), .int .i64 id] (.bool true, [], []) := by
  cases hf : fabCheck s with
  | false =>
    generalize hA : gStep s id = a
    refine mcb_of_vc mix x20 (by simp [F20]) fun hw _ => ?_
    clear hw
    repeat' with_reducible first | refine gTn_of (fun h => ?_) (fun h => ?_) | refine gT_of (fun h => ?_) (fun h => ?_) | refine caseTn_of (fun h => ?_) (fun h => ?_) | refine caseT_of (fun h => ?_) (fun h => ?_) | refine FN ?_ ?_ ?_ ?_ rfl ?_ | refine kv_ifn ?_ ?_ | refine kv_if ?_ ?_ | refine k_if ?_ ?_ | refine IA ?_ ?_ ?_ | refine L1 ?_ ?_ | refine L2 ?_ ?_ | refine L3 ?_ ?_ ?_ ?_ | refine L4 ?_ ?_ | refine L5 ?_ ?_ ?_ ?_ ?_ | refine L6 ?_ ?_ ?_ ?_ ?_ | refine AC.p0 (con39 ) ?_ (by simp -implicitDefEqProofs only [qU, pure_encZ]; done) ?_ ?_ | refine AC.p0 (con22s ) ?_ (by simp -implicitDefEqProofs only [qU, pure_encZ]; done) ?_ ?_ | refine AC.p0 (con32s ?_) ?_ (by simp -implicitDefEqProofs only [qU, pure_encZ]; done) ?_ ?_ | refine AC.p0 (con42s ?_) ?_ (by simp -implicitDefEqProofs only [qU, pure_encZ]; done) ?_ ?_ | refine AC.p0 (con35s ?_) ?_ (by simp -implicitDefEqProofs only [qU, pure_encZ, pure_encQ, pure_encE, pures, AV.pure, Bool.and_true]; done) ?_ ?_ | refine AC.p0 (con36q ?_ ?_) ?_ (by simp -implicitDefEqProofs only [qU, pure_encZ, pure_encQ, pure_encE, pures, AV.pure, Bool.and_true]; done) ?_ ?_ | refine ia_of (d := default) ?_ ?_ | simp -implicitDefEqProofs only [F20, qA, ld_0, ld_pv, st_0, splice, doEqs, qU, List.reduceReplicate, Nat.reduceAdd, Nat.reduceSub, Nat.reduceLeDiff, Nat.reduceEqDiff, Nat.reduceMul, reduceIte, reduceCtorEq, qI, Nat.reduceLT, Nat.reduceBEq, up_s, Int.toNat_natCast, encT, qZ, qC, qQ, qQ2, qEn, Int.natCast_zero, Int.reduceEq, Int.reduceNe, qSame_self, Int.le_refl, *]
    all_goals first
      | exact Wk.refl _
      | omega
      | exact Nat.le_trans fq_len (by omega)
      | exact (few_bd (by assumption)).mono (by omega)
      | (rw [← hA]; exact (bd_gStep (few_bd (by assumption))).mono (by omega))
      | (exfalso; have h := of_decide_eq_true (by assumption : decide (((s.log.length + 1 : Nat) : Int) ≤ (s.log.length : Int)) = true); omega)
      | (simp [*]; done)
      | trace_state
  | true =>
    have hfl := @fq_len s
    have hfa := @fq_len (gStep s id)
    rcases g_queue (id := id) (fab_iff.1 hf) with ⟨l1, q1⟩ | ⟨⟨t, k, v, r, g⟩, l2, ht, hk, m1, q2⟩
    · have hl : (gStep s id).log.length = s.log.length := by rw [l1]
      generalize hA : gStep s id = a at l1 q1 hl hfa
      clear l1
      refine mcb_of_vc mix x20 (by simp [F20]) fun hw _ => ?_
      clear hw
      repeat' with_reducible first | refine gTn_of (fun h => ?_) (fun h => ?_) | refine gT_of (fun h => ?_) (fun h => ?_) | refine caseTn_of (fun h => ?_) (fun h => ?_) | refine caseT_of (fun h => ?_) (fun h => ?_) | refine FN ?_ ?_ ?_ ?_ rfl ?_ | refine kv_ifn ?_ ?_ | refine kv_if ?_ ?_ | refine k_if ?_ ?_ | refine IA ?_ ?_ ?_ | refine L1 ?_ ?_ | refine L2 ?_ ?_ | refine L3 ?_ ?_ ?_ ?_ | refine L4 ?_ ?_ | refine L5 ?_ ?_ ?_ ?_ ?_ | refine L6 ?_ ?_ ?_ ?_ ?_ | refine AC.p0 (con39 ) ?_ (by simp -implicitDefEqProofs only [qU, pure_encZ]; done) ?_ ?_ | refine AC.p0 (con22s ) ?_ (by simp -implicitDefEqProofs only [qU, pure_encZ]; done) ?_ ?_ | refine AC.p0 (con32s ?_) ?_ (by simp -implicitDefEqProofs only [qU, pure_encZ]; done) ?_ ?_ | refine AC.p0 (con42s ?_) ?_ (by simp -implicitDefEqProofs only [qU, pure_encZ]; done) ?_ ?_ | refine AC.p0 (con35s ?_) ?_ (by simp -implicitDefEqProofs only [qU, pure_encZ, pure_encQ, pure_encE, pures, AV.pure, Bool.and_true]; done) ?_ ?_ | refine AC.p0 (con36q ?_ ?_) ?_ (by simp -implicitDefEqProofs only [qU, pure_encZ, pure_encQ, pure_encE, pures, AV.pure, Bool.and_true]; done) ?_ ?_ | refine ia_of (d := default) ?_ ?_ | simp -implicitDefEqProofs only [F20, qA, ld_0, ld_pv, st_0, splice, doEqs, qU, List.reduceReplicate, Nat.reduceAdd, Nat.reduceSub, Nat.reduceLeDiff, Nat.reduceEqDiff, Nat.reduceMul, reduceIte, reduceCtorEq, qI, Nat.reduceLT, Nat.reduceBEq, up_s, Int.toNat_natCast, encT, qZ, qC, qQ, qQ2, qEn, Int.natCast_zero, Int.reduceEq, Int.reduceNe, qSame_self, Int.le_refl, *]
      all_goals first
        | exact Wk.refl _
        | omega
        | exact Nat.le_trans fq_len (by omega)
        | exact (few_bd (by assumption)).mono (by omega)
        | (rw [← hA]; exact (bd_gStep (few_bd (by assumption))).mono (by omega))
        | (exfalso; have h := of_decide_eq_true (by assumption : decide (((s.log.length + 1 : Nat) : Int) ≤ (s.log.length : Int)) = true); omega)
        | (simp [*]; done)
        | trace_state
    · have hl : (gStep s id).log.length = s.log.length + 1 := by rw [l2]; simp
      have hg : (gStep s id).log.getD s.log.length default = ⟨t, k, v, r, g⟩ := by rw [l2]; simp [List.getD_eq_getElem?_getD]
      simp only [] at ht hk
      subst ht
      have hput : qPut (fabQueue s) (qRecv (fabQueue s) ⟨t, k, v, r, g⟩) = (fabQueue (gStep s t), true) := by
        unfold qPut; rw [if_pos m1, q2]; exact Prod.ext rfl m1
      have hle : ((s.log.length : Int) + 1 ≤ (s.log.length : Int)) = False := by simp; omega
      generalize hA : gStep s t = a at l2 q2 hl hg hput hfa
      clear l2 q2 m1
      rcases hk with rfl | rfl | rfl
      · refine mcb_of_vc mix x20 (by simp [F20]) fun hw _ => ?_
        clear hw
        repeat' with_reducible first | refine gTn_of (fun h => ?_) (fun h => ?_) | refine gT_of (fun h => ?_) (fun h => ?_) | refine caseTn_of (fun h => ?_) (fun h => ?_) | refine caseT_of (fun h => ?_) (fun h => ?_) | refine FN ?_ ?_ ?_ ?_ rfl ?_ | refine kv_ifn ?_ ?_ | refine kv_if ?_ ?_ | refine k_if ?_ ?_ | refine IA ?_ ?_ ?_ | refine L1 ?_ ?_ | refine L2 ?_ ?_ | refine L3 ?_ ?_ ?_ ?_ | refine L4 ?_ ?_ | refine L5 ?_ ?_ ?_ ?_ ?_ | refine L6 ?_ ?_ ?_ ?_ ?_ | refine AC.p0 (con39 ) ?_ (by simp -implicitDefEqProofs only [qU, pure_encZ]; done) ?_ ?_ | refine AC.p0 (con22s ) ?_ (by simp -implicitDefEqProofs only [qU, pure_encZ]; done) ?_ ?_ | refine AC.p0 (con32s ?_) ?_ (by simp -implicitDefEqProofs only [qU, pure_encZ]; done) ?_ ?_ | refine AC.p0 (con42s ?_) ?_ (by simp -implicitDefEqProofs only [qU, pure_encZ]; done) ?_ ?_ | refine AC.p0 (con35s ?_) ?_ (by simp -implicitDefEqProofs only [qU, pure_encZ, pure_encQ, pure_encE, pures, AV.pure, Bool.and_true]; done) ?_ ?_ | refine AC.p0 (con36q ?_ ?_) ?_ (by simp -implicitDefEqProofs only [qU, pure_encZ, pure_encQ, pure_encE, pures, AV.pure, Bool.and_true]; done) ?_ ?_ | refine ia_of (d := default) ?_ ?_ | refine AC.p0 (con38_4 ?_) ?_ (by simp -implicitDefEqProofs only [qU, pure_encZ, pure_encQ, pure_encE, pures, AV.pure, Bool.and_true]; done) ?_ ?_ | simp -implicitDefEqProofs only [F20, qA, ld_0, ld_pv, st_0, splice, doEqs, qU, List.reduceReplicate, Nat.reduceAdd, Nat.reduceSub, Nat.reduceLeDiff, Nat.reduceEqDiff, Nat.reduceMul, reduceIte, reduceCtorEq, qI, Nat.reduceLT, Nat.reduceBEq, up_s, Int.toNat_natCast, encT, qZ, qC, qQ, qQ2, qEn, Int.natCast_zero, Int.reduceEq, Int.reduceNe, qSame_self, Int.le_refl, *]
        all_goals first
          | exact Wk.refl _
          | omega
          | exact Nat.le_trans fq_len (by omega)
          | exact (few_bd (by assumption)).mono (by omega)
          | (rw [← hA]; exact (bd_gStep (few_bd (by assumption))).mono (by omega))
          | (exfalso; have h := of_decide_eq_true (by assumption : decide (((s.log.length + 1 : Nat) : Int) ≤ (s.log.length : Int)) = true); omega)
          | (simp [*]; done)
          | trace_state
      · refine mcb_of_vc mix x20 (by simp [F20]) fun hw _ => ?_
        clear hw
        repeat' with_reducible first | refine gTn_of (fun h => ?_) (fun h => ?_) | refine gT_of (fun h => ?_) (fun h => ?_) | refine caseTn_of (fun h => ?_) (fun h => ?_) | refine caseT_of (fun h => ?_) (fun h => ?_) | refine FN ?_ ?_ ?_ ?_ rfl ?_ | refine kv_ifn ?_ ?_ | refine kv_if ?_ ?_ | refine k_if ?_ ?_ | refine IA ?_ ?_ ?_ | refine L1 ?_ ?_ | refine L2 ?_ ?_ | refine L3 ?_ ?_ ?_ ?_ | refine L4 ?_ ?_ | refine L5 ?_ ?_ ?_ ?_ ?_ | refine L6 ?_ ?_ ?_ ?_ ?_ | refine AC.p0 (con39 ) ?_ (by simp -implicitDefEqProofs only [qU, pure_encZ]; done) ?_ ?_ | refine AC.p0 (con22s ) ?_ (by simp -implicitDefEqProofs only [qU, pure_encZ]; done) ?_ ?_ | refine AC.p0 (con32s ?_) ?_ (by simp -implicitDefEqProofs only [qU, pure_encZ]; done) ?_ ?_ | refine AC.p0 (con42s ?_) ?_ (by simp -implicitDefEqProofs only [qU, pure_encZ]; done) ?_ ?_ | refine AC.p0 (con35s ?_) ?_ (by simp -implicitDefEqProofs only [qU, pure_encZ, pure_encQ, pure_encE, pures, AV.pure, Bool.and_true]; done) ?_ ?_ | refine AC.p0 (con36q ?_ ?_) ?_ (by simp -implicitDefEqProofs only [qU, pure_encZ, pure_encQ, pure_encE, pures, AV.pure, Bool.and_true]; done) ?_ ?_ | refine ia_of (d := default) ?_ ?_ | refine AC.p0 (con38_5 ?_) ?_ (by simp -implicitDefEqProofs only [qU, pure_encZ, pure_encQ, pure_encE, pures, AV.pure, Bool.and_true]; done) ?_ ?_ | simp -implicitDefEqProofs only [F20, qA, ld_0, ld_pv, st_0, splice, doEqs, qU, List.reduceReplicate, Nat.reduceAdd, Nat.reduceSub, Nat.reduceLeDiff, Nat.reduceEqDiff, Nat.reduceMul, reduceIte, reduceCtorEq, qI, Nat.reduceLT, Nat.reduceBEq, up_s, Int.toNat_natCast, encT, qZ, qC, qQ, qQ2, qEn, Int.natCast_zero, Int.reduceEq, Int.reduceNe, qSame_self, Int.le_refl, *]
        all_goals first
          | exact Wk.refl _
          | omega
          | exact Nat.le_trans fq_len (by omega)
          | exact (few_bd (by assumption)).mono (by omega)
          | (rw [← hA]; exact (bd_gStep (few_bd (by assumption))).mono (by omega))
          | (exfalso; have h := of_decide_eq_true (by assumption : decide (((s.log.length + 1 : Nat) : Int) ≤ (s.log.length : Int)) = true); omega)
          | (simp [*]; done)
          | trace_state
      · refine mcb_of_vc mix x20 (by simp [F20]) fun hw _ => ?_
        clear hw
        repeat' with_reducible first | refine gTn_of (fun h => ?_) (fun h => ?_) | refine gT_of (fun h => ?_) (fun h => ?_) | refine caseTn_of (fun h => ?_) (fun h => ?_) | refine caseT_of (fun h => ?_) (fun h => ?_) | refine FN ?_ ?_ ?_ ?_ rfl ?_ | refine kv_ifn ?_ ?_ | refine kv_if ?_ ?_ | refine k_if ?_ ?_ | refine IA ?_ ?_ ?_ | refine L1 ?_ ?_ | refine L2 ?_ ?_ | refine L3 ?_ ?_ ?_ ?_ | refine L4 ?_ ?_ | refine L5 ?_ ?_ ?_ ?_ ?_ | refine L6 ?_ ?_ ?_ ?_ ?_ | refine AC.p0 (con39 ) ?_ (by simp -implicitDefEqProofs only [qU, pure_encZ]; done) ?_ ?_ | refine AC.p0 (con22s ) ?_ (by simp -implicitDefEqProofs only [qU, pure_encZ]; done) ?_ ?_ | refine AC.p0 (con32s ?_) ?_ (by simp -implicitDefEqProofs only [qU, pure_encZ]; done) ?_ ?_ | refine AC.p0 (con42s ?_) ?_ (by simp -implicitDefEqProofs only [qU, pure_encZ]; done) ?_ ?_ | refine AC.p0 (con35s ?_) ?_ (by simp -implicitDefEqProofs only [qU, pure_encZ, pure_encQ, pure_encE, pures, AV.pure, Bool.and_true]; done) ?_ ?_ | refine AC.p0 (con36q ?_ ?_) ?_ (by simp -implicitDefEqProofs only [qU, pure_encZ, pure_encQ, pure_encE, pures, AV.pure, Bool.and_true]; done) ?_ ?_ | refine ia_of (d := default) ?_ ?_ | refine AC.p0 (con38_6 ?_) ?_ (by simp -implicitDefEqProofs only [qU, pure_encZ, pure_encQ, pure_encE, pures, AV.pure, Bool.and_true]; done) ?_ ?_ | simp -implicitDefEqProofs only [F20, qA, ld_0, ld_pv, st_0, splice, doEqs, qU, List.reduceReplicate, Nat.reduceAdd, Nat.reduceSub, Nat.reduceLeDiff, Nat.reduceEqDiff, Nat.reduceMul, reduceIte, reduceCtorEq, qI, Nat.reduceLT, Nat.reduceBEq, up_s, Int.toNat_natCast, encT, qZ, qC, qQ, qQ2, qEn, Int.natCast_zero, Int.reduceEq, Int.reduceNe, qSame_self, Int.le_refl, *]
        all_goals first
          | exact Wk.refl _
          | omega
          | exact Nat.le_trans fq_len (by omega)
          | exact (few_bd (by assumption)).mono (by omega)
          | (rw [← hA]; exact (bd_gStep (few_bd (by assumption))).mono (by omega))
          | (exfalso; have h := of_decide_eq_true (by assumption : decide (((s.log.length + 1 : Nat) : Int) ≤ (s.log.length : Int)) = true); omega)
          | (simp [*]; done)
          | trace_state

end Go.Sak
