/- Part S71 of the proofs about the program: K74. Conditions: none. -/
import Derived.Test.YtojlofaafkdhgaaGreatS69
import Derived.Test.YtojlofaafkdhgaaGreatS04
import Derived.Test.YtojlofaafkdhgaaGreatProg
import Derived.KernelRfl
namespace Go.Sak
open Go Go.RowKit Go.Proofs
set_option linter.unusedVariables false
set_option linter.unusedSimpArgs false
set_option maxRecDepth 10000
set_option maxHeartbeats 8000000
theorem con109q {q : Queue} {t k v r g : Int} (h : q.vals.length ≤ 10000000) : Con Tryz.prog 109 [.agg (encQ q), .agg [.int .i64 t, .int .i64 k, .int .i64 v, .int .i64 r, .int .i64 g]] (.tup [.agg (encQ (qSend q ⟨t, k, v, r, g⟩).1), .bool (qSend q ⟨t, k, v, r, g⟩).2], [], []) := con109 h
theorem con38_1 {q : Queue} {t v r g : Int} (h : q.vals.length ≤ 1000000) : Con Tryz.prog 38 [.agg (encQ q), .agg (encE ⟨t, 1, v, r, g⟩)] (.tup [.agg (encQ (qPut q (qSend q ⟨t, 1, v, r, g⟩)).1), .bool (qPut q (qSend q ⟨t, 1, v, r, g⟩)).2], [], []) := by
  have hq := qSend_len (q := q) (e := ⟨t, 1, v, r, g⟩)
  refine mcb_of_vc mix x38 (by simp [F38]) fun hw _ => ?_
  clear hw
  repeat' with_reducible first | refine gTn_of (fun h => ?_) (fun h => ?_) | refine gT_of (fun h => ?_) (fun h => ?_) | refine caseTn_of (fun h => ?_) (fun h => ?_) | refine caseT_of (fun h => ?_) (fun h => ?_) | refine FN ?_ ?_ ?_ ?_ rfl ?_ | refine kv_ifn ?_ ?_ | refine kv_if ?_ ?_ | refine k_if ?_ ?_ | refine IA ?_ ?_ ?_ | refine L1 ?_ ?_ | refine L2 ?_ ?_ | refine L3 ?_ ?_ ?_ ?_ | refine L4 ?_ ?_ | refine L5 ?_ ?_ ?_ ?_ ?_ | refine L6 ?_ ?_ ?_ ?_ ?_ | refine AC.p0 (con111q ?_) ?_ (by simp -implicitDefEqProofs only [qU, pure_encQ, pures, AV.pure, Bool.and_true]; done) ?_ ?_ | refine AC.p0 (con109q ?_) ?_ (by simp -implicitDefEqProofs only [qU, pure_encQ, pures, AV.pure, Bool.and_true]; done) ?_ ?_ | refine AC.viewAll ?_ ?_ ?_ | refine lp_unroll 4 ?_ ?_ | refine And.intro (Nat.le_of_ble_eq_true rfl) ?_ | simp -implicitDefEqProofs only [F38, qA, ld_0, ld_pv, st_0, splice, doEqs, qU, List.reduceReplicate, Nat.reduceAdd, Nat.reduceSub, Nat.reduceLeDiff, Nat.reduceEqDiff, Nat.reduceMul, reduceIte, reduceCtorEq, qI, Nat.reduceLT, Nat.reduceBEq, up_s, Int.toNat_natCast, encT, qZ, c3, ld_1, ld_2, doBslice, qQ, qQ2, un_4, Int.reduceEq, Int.reduceNe, Int.reduceLT, Int.reduceLE, Int.natCast_zero, wr_1, wr_2, wr_3, wrap_1, wrap_2, wrap_3, doIaddr, List.getD_cons_zero, List.getD_cons_succ, Int.reduceToNat, Int.reduceAdd, doLkp, mfind, keyEq, AV.isInt, doMupd, Blk.inN, Blk.nms, List.flatMap_cons, List.flatMap_nil, encE, *]
  all_goals first
    | omega
    | (refine Wk.of_eq ?_; simp [qPut, *]; done)
    | trace_state

theorem con38_2 {q : Queue} {t v r g : Int} (h : q.vals.length ≤ 1000000) : Con Tryz.prog 38 [.agg (encQ q), .agg (encE ⟨t, 2, v, r, g⟩)] (.tup [.agg (encQ (qPut q (qSend q ⟨t, 2, v, r, g⟩)).1), .bool (qPut q (qSend q ⟨t, 2, v, r, g⟩)).2], [], []) := by
  have hq := qSend_len (q := q) (e := ⟨t, 2, v, r, g⟩)
  refine mcb_of_vc mix x38 (by simp [F38]) fun hw _ => ?_
  clear hw
  repeat' with_reducible first | refine gTn_of (fun h => ?_) (fun h => ?_) | refine gT_of (fun h => ?_) (fun h => ?_) | refine caseTn_of (fun h => ?_) (fun h => ?_) | refine caseT_of (fun h => ?_) (fun h => ?_) | refine FN ?_ ?_ ?_ ?_ rfl ?_ | refine kv_ifn ?_ ?_ | refine kv_if ?_ ?_ | refine k_if ?_ ?_ | refine IA ?_ ?_ ?_ | refine L1 ?_ ?_ | refine L2 ?_ ?_ | refine L3 ?_ ?_ ?_ ?_ | refine L4 ?_ ?_ | refine L5 ?_ ?_ ?_ ?_ ?_ | refine L6 ?_ ?_ ?_ ?_ ?_ | refine AC.p0 (con111q ?_) ?_ (by simp -implicitDefEqProofs only [qU, pure_encQ, pures, AV.pure, Bool.and_true]; done) ?_ ?_ | refine AC.p0 (con109q ?_) ?_ (by simp -implicitDefEqProofs only [qU, pure_encQ, pures, AV.pure, Bool.and_true]; done) ?_ ?_ | refine AC.viewAll ?_ ?_ ?_ | refine lp_unroll 4 ?_ ?_ | refine And.intro (Nat.le_of_ble_eq_true rfl) ?_ | simp -implicitDefEqProofs only [F38, qA, ld_0, ld_pv, st_0, splice, doEqs, qU, List.reduceReplicate, Nat.reduceAdd, Nat.reduceSub, Nat.reduceLeDiff, Nat.reduceEqDiff, Nat.reduceMul, reduceIte, reduceCtorEq, qI, Nat.reduceLT, Nat.reduceBEq, up_s, Int.toNat_natCast, encT, qZ, c3, ld_1, ld_2, doBslice, qQ, qQ2, un_4, Int.reduceEq, Int.reduceNe, Int.reduceLT, Int.reduceLE, Int.natCast_zero, wr_1, wr_2, wr_3, wrap_1, wrap_2, wrap_3, doIaddr, List.getD_cons_zero, List.getD_cons_succ, Int.reduceToNat, Int.reduceAdd, doLkp, mfind, keyEq, AV.isInt, doMupd, Blk.inN, Blk.nms, List.flatMap_cons, List.flatMap_nil, encE, *]
  all_goals first
    | omega
    | (refine Wk.of_eq ?_; simp [qPut, *]; done)
    | trace_state

theorem con38_3 {q : Queue} {t v r g : Int} (h : q.vals.length ≤ 1000000) : Con Tryz.prog 38 [.agg (encQ q), .agg (encE ⟨t, 3, v, r, g⟩)] (.tup [.agg (encQ (qPut q (qSend q ⟨t, 3, v, r, g⟩)).1), .bool (qPut q (qSend q ⟨t, 3, v, r, g⟩)).2], [], []) := by
  have hq := qSend_len (q := q) (e := ⟨t, 3, v, r, g⟩)
  refine mcb_of_vc mix x38 (by simp [F38]) fun hw _ => ?_
  clear hw
  repeat' with_reducible first | refine gTn_of (fun h => ?_) (fun h => ?_) | refine gT_of (fun h => ?_) (fun h => ?_) | refine caseTn_of (fun h => ?_) (fun h => ?_) | refine caseT_of (fun h => ?_) (fun h => ?_) | refine FN ?_ ?_ ?_ ?_ rfl ?_ | refine kv_ifn ?_ ?_ | refine kv_if ?_ ?_ | refine k_if ?_ ?_ | refine IA ?_ ?_ ?_ | refine L1 ?_ ?_ | refine L2 ?_ ?_ | refine L3 ?_ ?_ ?_ ?_ | refine L4 ?_ ?_ | refine L5 ?_ ?_ ?_ ?_ ?_ | refine L6 ?_ ?_ ?_ ?_ ?_ | refine AC.p0 (con111q ?_) ?_ (by simp -implicitDefEqProofs only [qU, pure_encQ, pures, AV.pure, Bool.and_true]; done) ?_ ?_ | refine AC.p0 (con109q ?_) ?_ (by simp -implicitDefEqProofs only [qU, pure_encQ, pures, AV.pure, Bool.and_true]; done) ?_ ?_ | refine AC.viewAll ?_ ?_ ?_ | refine lp_unroll 4 ?_ ?_ | refine And.intro (Nat.le_of_ble_eq_true rfl) ?_ | simp -implicitDefEqProofs only [F38, qA, ld_0, ld_pv, st_0, splice, doEqs, qU, List.reduceReplicate, Nat.reduceAdd, Nat.reduceSub, Nat.reduceLeDiff, Nat.reduceEqDiff, Nat.reduceMul, reduceIte, reduceCtorEq, qI, Nat.reduceLT, Nat.reduceBEq, up_s, Int.toNat_natCast, encT, qZ, c3, ld_1, ld_2, doBslice, qQ, qQ2, un_4, Int.reduceEq, Int.reduceNe, Int.reduceLT, Int.reduceLE, Int.natCast_zero, wr_1, wr_2, wr_3, wrap_1, wrap_2, wrap_3, doIaddr, List.getD_cons_zero, List.getD_cons_succ, Int.reduceToNat, Int.reduceAdd, doLkp, mfind, keyEq, AV.isInt, doMupd, Blk.inN, Blk.nms, List.flatMap_cons, List.flatMap_nil, encE, *]
  all_goals first
    | omega
    | (refine Wk.of_eq ?_; simp [qPut, *]; done)
    | trace_state

theorem con106q {q : Queue} {t k v r g : Int} (h : q.vals.length ≤ 10000000) : Con Tryz.prog 106 [.agg (encQ q), .agg [.int .i64 t, .int .i64 k, .int .i64 v, .int .i64 r, .int .i64 g]] (.tup [.agg (encQ (qEvict q ⟨t, k, v, r, g⟩).1), .bool (qEvict q ⟨t, k, v, r, g⟩).2], [], []) := con106 h
theorem con38_9 {q : Queue} {t v r g : Int} (h : q.vals.length ≤ 1000000) : Con Tryz.prog 38 [.agg (encQ q), .agg (encE ⟨t, 9, v, r, g⟩)] (.tup [.agg (encQ (qPut q (qEvict q ⟨t, 9, v, r, g⟩)).1), .bool (qPut q (qEvict q ⟨t, 9, v, r, g⟩)).2], [], []) := by
  have hq := qEvict_len (q := q) (e := ⟨t, 9, v, r, g⟩)
  refine mcb_of_vc mix x38 (by simp [F38]) fun hw _ => ?_
  clear hw
  repeat' with_reducible first | refine gTn_of (fun h => ?_) (fun h => ?_) | refine gT_of (fun h => ?_) (fun h => ?_) | refine caseTn_of (fun h => ?_) (fun h => ?_) | refine caseT_of (fun h => ?_) (fun h => ?_) | refine FN ?_ ?_ ?_ ?_ rfl ?_ | refine kv_ifn ?_ ?_ | refine kv_if ?_ ?_ | refine k_if ?_ ?_ | refine IA ?_ ?_ ?_ | refine L1 ?_ ?_ | refine L2 ?_ ?_ | refine L3 ?_ ?_ ?_ ?_ | refine L4 ?_ ?_ | refine L5 ?_ ?_ ?_ ?_ ?_ | refine L6 ?_ ?_ ?_ ?_ ?_ | refine AC.p0 (con111q ?_) ?_ (by simp -implicitDefEqProofs only [qU, pure_encQ, pures, AV.pure, Bool.and_true]; done) ?_ ?_ | refine AC.p0 (con106q ?_) ?_ (by simp -implicitDefEqProofs only [qU, pure_encQ, pures, AV.pure, Bool.and_true]; done) ?_ ?_ | refine AC.viewAll ?_ ?_ ?_ | refine lp_unroll 4 ?_ ?_ | refine And.intro (Nat.le_of_ble_eq_true rfl) ?_ | simp -implicitDefEqProofs only [F38, qA, ld_0, ld_pv, st_0, splice, doEqs, qU, List.reduceReplicate, Nat.reduceAdd, Nat.reduceSub, Nat.reduceLeDiff, Nat.reduceEqDiff, Nat.reduceMul, reduceIte, reduceCtorEq, qI, Nat.reduceLT, Nat.reduceBEq, up_s, Int.toNat_natCast, encT, qZ, c3, ld_1, ld_2, doBslice, qQ, qQ2, un_4, Int.reduceEq, Int.reduceNe, Int.reduceLT, Int.reduceLE, Int.natCast_zero, wr_1, wr_2, wr_3, wrap_1, wrap_2, wrap_3, doIaddr, List.getD_cons_zero, List.getD_cons_succ, Int.reduceToNat, Int.reduceAdd, doLkp, mfind, keyEq, AV.isInt, doMupd, Blk.inN, Blk.nms, List.flatMap_cons, List.flatMap_nil, encE, *]
  all_goals first
    | omega
    | (refine Wk.of_eq ?_; simp [qPut, *]; done)
    | trace_state

end Go.Sak
