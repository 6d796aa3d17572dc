/- Part S73 of the proofs about the program: K80, K81. Conditions: none. -/
import Derived.Test.YtojlofaafkdhgaaGreatS22
import Derived.Test.YtojlofaafkdhgaaGreatS41
import Derived.Test.YtojlofaafkdhgaaGreatS40
import Derived.Test.YtojlofaafkdhgaaGreatS16
import Derived.Test.YtojlofaafkdhgaaGreatS47
import Derived.Test.YtojlofaafkdhgaaGreatS04
import Derived.Test.YtojlofaafkdhgaaGreatProg
import Derived.KernelRfl
import Derived.Test.YtojlofaafkdhgaaGreatS38
namespace Go.Sak
open Go Go.RowKit Go.Proofs
set_option linter.unusedVariables false
set_option linter.unusedSimpArgs false
set_option maxRecDepth 10000
set_option maxHeartbeats 8000000
def F259 : AFn := ⟨3, (.seq (.reg [o1 2 (.mv (.const (.bool false)))]) (.seq (.reg [o1 2 (.mv (.const (.bool true)))]) .ret)), [(2, none)]⟩
theorem x259 : xf Tryz.prog 259 = some F259 := by kernel_rfl
theorem lf259 : F259.code.lf = true := rfl
theorem lc_drop {l : List Int} {k : Nat} (h : lCheck l = true) : lCheck (l.drop k) = true := lCheck_sub h (List.drop_sublist k l)
theorem next_drop {l : List Int} {k : Nat} (h : lCheck l = true) (hk : k < l.length) : lNext (l.drop k) = (l.getD k default, l.drop (k + 1), true) := by
  unfold lNext
  rw [if_neg (by simp only [lc_drop h, List.length_drop]; simp; omega)]
  refine Prod.ext (by simp [List.getD_eq_getElem?_getD]) (Prod.ext (by simp [Nat.add_comm]) rfl)
theorem next_end {l : List Int} {k : Nat} (h : lCheck l = true) (hk : k = l.length) : lNext (l.drop k) = (0, [], false) := by
  unfold lNext; rw [if_pos (.inr (by simp [hk])), hk, List.drop_length]
theorem take_s {l : List Int} {k : Nat} (hk : k < l.length) : l.take (k + 1) = l.take k ++ [l.getD k default] := by
  rw [List.take_succ_eq_append_getElem hk]; simp [List.getD_eq_getElem?_getD, hk]
theorem con223a {e_ep : Int} {e_ln : List Int} (hl : e_ln.length ≤ 100000000) : Con Tryz.prog 223 [.agg [.int .i64 e_ep, .slv 1 (e_ln.map encI)], .fn (.func 259) [] []] (.tup [.agg (encV (vNotifyAll ⟨e_ep, e_ln⟩).1), .slv 1 ((vNotifyAll ⟨e_ep, e_ln⟩).2.map encI)], [], []) := by
  by_cases hv : vCheck ⟨e_ep, e_ln⟩ = true
  · have hc : lCheck e_ln = true := lCheck_of hv
    have hb : 0 ≤ e_ep ∧ e_ep ≤ 1099511627776 := by simp [vCheck] at hv; omega
    have hmin : (if 1099511627776 < IntKind.wrap .i64 (e_ep + 1) then (1099511627776 : Int) else IntKind.wrap .i64 (e_ep + 1)) = min (e_ep + 1) 1099511627776 := by
      rw [wrap64 (by omega) (by omega)]; split <;> omega
    rw [show vNotifyAll ⟨e_ep, e_ln⟩ = (⟨min (e_ep + 1) 1099511627776, []⟩, e_ln) from by simp [vNotifyAll, hv]]
    generalize min (e_ep + 1) 1099511627776 = ep at hmin ⊢
    refine mcb_of_vc mix x223 (by simp [F223]) fun hw _ => ?_
    clear hw
    repeat' with_reducible first | refine gTn_of (fun h => ?_) (fun h => ?_) | refine gT_of (fun h => ?_) (fun h => ?_) | refine caseTn_of (fun h => ?_) (fun h => ?_) | refine caseT_of (fun h => ?_) (fun h => ?_) | refine FN ?_ ?_ ?_ ?_ rfl ?_ | refine kv_ifn ?_ ?_ | refine kv_if ?_ ?_ | refine k_if ?_ ?_ | refine I2 mix x259 lf259 ?_ ?_ ?_ ?_ ?_ | refine I2 mix x251 lf251 ?_ ?_ ?_ ?_ ?_ | refine IA ?_ ?_ ?_ | refine L1 ?_ ?_ | refine L2 ?_ ?_ | refine L3 ?_ ?_ ?_ ?_ | refine L4 ?_ ?_ | refine L5 ?_ ?_ ?_ ?_ ?_ | refine L6 ?_ ?_ ?_ ?_ ?_ | refine P0 (con95 ?_) ?_ ?_ ?_ | refine ACV.of (con95 ?_) ?_ ?_ ?_ | refine ACK.of (con95 ?_) ?_ ?_ | refine P0 (con225 ?_) ?_ ?_ ?_ | refine ACV.of (con225 ?_) ?_ ?_ ?_ | refine ACK.of (con225 ?_) ?_ ?_ | refine P0 (con258 ?_) ?_ ?_ ?_ | refine ACV.of (con258 ?_) ?_ ?_ ?_ | refine ACK.of (con258 ?_) ?_ ?_ | simp -implicitDefEqProofs only [F223, qA, ld_0, ld_pv, st_0, splice, doEqs, qU, List.reduceReplicate, Nat.reduceAdd, Nat.reduceSub, Nat.reduceLeDiff, Nat.reduceEqDiff, Nat.reduceMul, reduceIte, reduceCtorEq, qI, Nat.reduceLT, Nat.reduceBEq, F259, F251, up_s, Int.toNat_natCast, encT, encV, rw_slv, doBslice, trss_append, lm_normal, lm_exit, lm_ret, Int.natCast_zero, Int.natCast_one, Int.reduceEq, Int.reduceNe, *]
    all_goals first
      | omega
      | refine lm_of 8 (fun k : Nat => nl 1 (some (.fn (.func 259) [] []) :: nl 2 (some (.ptr 2 0 0) :: nl 1 (some (.ptr 3 0 0) :: some (if k = 0 then .slnil else .slm 4 k) :: some (.fn (.func 251) [.ptr 3 0 0] []) :: nl 36 [])))) (fun k => [(2, .rows 29 2 [[.int .i64 0, .slnil]]), (3, .rows 197 2 [[.int .i64 ep, .slv 1 ((e_ln.drop k).map encI)]])] ++ (if k = 0 then [] else [(4, .rows 3 1 ((e_ln.take k).map encI))])) (fun k => k ≤ e_ln.length) (fun k => e_ln.length + 1 - k) [] [(17, 2), (97, 3)] 0 (by omega) ?_ ?_ ?_ ?_ ?_ ?_
      | trace_state
    rotate_right
    · intro k hk
      simp only [all_some, all_none, all_nil, nl_s, nl_0]
      intros
      rcases Nat.lt_or_eq_of_le hk with hlt | heq
      · have hN := next_drop hc hlt
        have hT := take_s hlt
        by_cases h0 : k = 0
        · subst h0
          simp only [List.drop_zero, List.take_zero, List.nil_append, Nat.zero_add] at hN hT
          simp -implicitDefEqProofs only [if_true, List.append_nil]
          repeat' with_reducible first | refine gTn_of (fun h => ?_) (fun h => ?_) | refine gT_of (fun h => ?_) (fun h => ?_) | refine caseTn_of (fun h => ?_) (fun h => ?_) | refine caseT_of (fun h => ?_) (fun h => ?_) | refine FN ?_ ?_ ?_ ?_ rfl ?_ | refine kv_ifn ?_ ?_ | refine kv_if ?_ ?_ | refine k_if ?_ ?_ | refine I2 mix x259 lf259 ?_ ?_ ?_ ?_ ?_ | refine I2 mix x251 lf251 ?_ ?_ ?_ ?_ ?_ | refine IA ?_ ?_ ?_ | refine L1 ?_ ?_ | refine L2 ?_ ?_ | refine L3 ?_ ?_ ?_ ?_ | refine L4 ?_ ?_ | refine L5 ?_ ?_ ?_ ?_ ?_ | refine L6 ?_ ?_ ?_ ?_ ?_ | refine ap_nil (rw_slm _ _ _ _ _ _ (by simp -implicitDefEqProofs only [m_get, Nat.reduceEqDiff, reduceIte, if_true, if_false]; first | done | exact rfl) ?_) ?_ ?_ ?_ ?_ | refine ap_of (rw_slm _ _ _ _ _ _ (by simp -implicitDefEqProofs only [m_get, Nat.reduceEqDiff, reduceIte, if_true, if_false]; first | done | exact rfl) ?_) (by simp -implicitDefEqProofs only [m_get, Nat.reduceEqDiff, reduceIte, if_true, if_false]; first | done | exact rfl) ?_ ?_ ?_ ?_ | refine rm_of [] [(2, 2), (3, 3), (264, 4)] 1 ?_ ?_ ?_ ?_ ?_ ?_ | refine P0 (con95 ?_) ?_ ?_ ?_ | refine ACV.of (con95 ?_) ?_ ?_ ?_ | refine ACK.of (con95 ?_) ?_ ?_ | refine P0 (con225 ?_) ?_ ?_ ?_ | refine ACV.of (con225 ?_) ?_ ?_ ?_ | refine ACK.of (con225 ?_) ?_ ?_ | refine P0 (con258 ?_) ?_ ?_ ?_ | refine ACV.of (con258 ?_) ?_ ?_ ?_ | refine ACK.of (con258 ?_) ?_ ?_ | simp -implicitDefEqProofs only [F223, qA, ld_0, ld_pv, st_0, splice, doEqs, qU, List.reduceReplicate, Nat.reduceAdd, Nat.reduceSub, Nat.reduceLeDiff, Nat.reduceEqDiff, Nat.reduceMul, reduceIte, reduceCtorEq, qI, Nat.reduceLT, Nat.reduceBEq, F259, F251, up_s, Int.toNat_natCast, encT, encV, rw_slv, doBslice, trss_append, lm_normal, lm_exit, lm_ret, Int.natCast_zero, Int.natCast_one, Int.reduceEq, Int.reduceNe, *]
          all_goals first
            | omega
            | (simp only [List.length_take, List.length_drop]; omega)
            | (rw [List.map_append]; rfl)
            | (rw [hT]; simp [encI]; done)
            | (simp [hT, encI]; omega)
            | (simp [encI, List.getD_eq_getElem?_getD, hlt]; done)
            | exact Wk.refl _
            | (rw [List.take_of_length_le (by simp)]; exact Wk.refl _)
            | (obtain rfl : e_ln = [] := List.eq_nil_of_length_eq_zero hg
               exact Wk.tup ⟨Wk.refl _, id, Wk.nil _, id, trivial⟩)
            | (obtain rfl : k = e_ln.length := hg
               simp only [List.take_length, List.length_map, Nat.le_refl, if_true]
               try rw [List.take_of_length_le (by simp)]
               exact Wk.refl _)
            | trace_state
        · simp -implicitDefEqProofs only [if_neg h0, List.cons_append, List.nil_append]
          repeat' with_reducible first | refine gTn_of (fun h => ?_) (fun h => ?_) | refine gT_of (fun h => ?_) (fun h => ?_) | refine caseTn_of (fun h => ?_) (fun h => ?_) | refine caseT_of (fun h => ?_) (fun h => ?_) | refine FN ?_ ?_ ?_ ?_ rfl ?_ | refine kv_ifn ?_ ?_ | refine kv_if ?_ ?_ | refine k_if ?_ ?_ | refine I2 mix x259 lf259 ?_ ?_ ?_ ?_ ?_ | refine I2 mix x251 lf251 ?_ ?_ ?_ ?_ ?_ | refine IA ?_ ?_ ?_ | refine L1 ?_ ?_ | refine L2 ?_ ?_ | refine L3 ?_ ?_ ?_ ?_ | refine L4 ?_ ?_ | refine L5 ?_ ?_ ?_ ?_ ?_ | refine L6 ?_ ?_ ?_ ?_ ?_ | refine ap_nil (rw_slm _ _ _ _ _ _ (by simp -implicitDefEqProofs only [m_get, Nat.reduceEqDiff, reduceIte, if_true, if_false]; first | done | exact rfl) ?_) ?_ ?_ ?_ ?_ | refine ap_of (rw_slm _ _ _ _ _ _ (by simp -implicitDefEqProofs only [m_get, Nat.reduceEqDiff, reduceIte, if_true, if_false]; first | done | exact rfl) ?_) (by simp -implicitDefEqProofs only [m_get, Nat.reduceEqDiff, reduceIte, if_true, if_false]; first | done | exact rfl) ?_ ?_ ?_ ?_ | refine rm_of [] [(2, 2), (3, 3), (264, 4)] (k + 1) ?_ ?_ ?_ ?_ ?_ ?_ | refine P0 (con95 ?_) ?_ ?_ ?_ | refine ACV.of (con95 ?_) ?_ ?_ ?_ | refine ACK.of (con95 ?_) ?_ ?_ | refine P0 (con225 ?_) ?_ ?_ ?_ | refine ACV.of (con225 ?_) ?_ ?_ ?_ | refine ACK.of (con225 ?_) ?_ ?_ | refine P0 (con258 ?_) ?_ ?_ ?_ | refine ACV.of (con258 ?_) ?_ ?_ ?_ | refine ACK.of (con258 ?_) ?_ ?_ | simp -implicitDefEqProofs only [F223, qA, ld_0, ld_pv, st_0, splice, doEqs, qU, List.reduceReplicate, Nat.reduceAdd, Nat.reduceSub, Nat.reduceLeDiff, Nat.reduceEqDiff, Nat.reduceMul, reduceIte, reduceCtorEq, qI, Nat.reduceLT, Nat.reduceBEq, F259, F251, up_s, Int.toNat_natCast, encT, encV, rw_slv, doBslice, trss_append, lm_normal, lm_exit, lm_ret, Int.natCast_zero, Int.natCast_one, Int.reduceEq, Int.reduceNe, *]
          all_goals first
            | omega
            | (simp only [List.length_take, List.length_drop]; omega)
            | (rw [List.map_append]; rfl)
            | (rw [hT]; simp [encI]; done)
            | (simp [hT, encI]; omega)
            | (simp [encI, List.getD_eq_getElem?_getD, hlt]; done)
            | exact Wk.refl _
            | (rw [List.take_of_length_le (by simp)]; exact Wk.refl _)
            | (obtain rfl : e_ln = [] := List.eq_nil_of_length_eq_zero hg
               exact Wk.tup ⟨Wk.refl _, id, Wk.nil _, id, trivial⟩)
            | (obtain rfl : k = e_ln.length := hg
               simp only [List.take_length, List.length_map, Nat.le_refl, if_true]
               try rw [List.take_of_length_le (by simp)]
               exact Wk.refl _)
            | trace_state
      · have hN := next_end hc heq
        by_cases h0 : k = 0
        · subst h0
          simp only [List.drop_zero] at hN
          simp -implicitDefEqProofs only [if_true, List.append_nil]
          have hg : id (e_ln.length = 0) := heq.symm
          clear heq hk
          repeat' with_reducible first | refine gTn_of (fun h => ?_) (fun h => ?_) | refine gT_of (fun h => ?_) (fun h => ?_) | refine caseTn_of (fun h => ?_) (fun h => ?_) | refine caseT_of (fun h => ?_) (fun h => ?_) | refine FN ?_ ?_ ?_ ?_ rfl ?_ | refine kv_ifn ?_ ?_ | refine kv_if ?_ ?_ | refine k_if ?_ ?_ | refine I2 mix x259 lf259 ?_ ?_ ?_ ?_ ?_ | refine I2 mix x251 lf251 ?_ ?_ ?_ ?_ ?_ | refine IA ?_ ?_ ?_ | refine L1 ?_ ?_ | refine L2 ?_ ?_ | refine L3 ?_ ?_ ?_ ?_ | refine L4 ?_ ?_ | refine L5 ?_ ?_ ?_ ?_ ?_ | refine L6 ?_ ?_ ?_ ?_ ?_ | refine ap_nil (rw_slm _ _ _ _ _ _ (by simp -implicitDefEqProofs only [m_get, Nat.reduceEqDiff, reduceIte, if_true, if_false]; first | done | exact rfl) ?_) ?_ ?_ ?_ ?_ | refine ap_of (rw_slm _ _ _ _ _ _ (by simp -implicitDefEqProofs only [m_get, Nat.reduceEqDiff, reduceIte, if_true, if_false]; first | done | exact rfl) ?_) (by simp -implicitDefEqProofs only [m_get, Nat.reduceEqDiff, reduceIte, if_true, if_false]; first | done | exact rfl) ?_ ?_ ?_ ?_ | refine P0 (con95 ?_) ?_ ?_ ?_ | refine ACV.of (con95 ?_) ?_ ?_ ?_ | refine ACK.of (con95 ?_) ?_ ?_ | refine P0 (con225 ?_) ?_ ?_ ?_ | refine ACV.of (con225 ?_) ?_ ?_ ?_ | refine ACK.of (con225 ?_) ?_ ?_ | refine P0 (con258 ?_) ?_ ?_ ?_ | refine ACV.of (con258 ?_) ?_ ?_ ?_ | refine ACK.of (con258 ?_) ?_ ?_ | simp -implicitDefEqProofs only [F223, qA, ld_0, ld_pv, st_0, splice, doEqs, qU, List.reduceReplicate, Nat.reduceAdd, Nat.reduceSub, Nat.reduceLeDiff, Nat.reduceEqDiff, Nat.reduceMul, reduceIte, reduceCtorEq, qI, Nat.reduceLT, Nat.reduceBEq, F259, F251, up_s, Int.toNat_natCast, encT, encV, rw_slv, doBslice, trss_append, lm_normal, lm_exit, lm_ret, Int.natCast_zero, Int.natCast_one, Int.reduceEq, Int.reduceNe, *]
          all_goals first
            | omega
            | (simp only [List.length_take, List.length_drop]; omega)
            | (rw [List.map_append]; rfl)
            | (rw [hT]; simp [encI]; done)
            | (simp [hT, encI]; omega)
            | (simp [encI, List.getD_eq_getElem?_getD, hlt]; done)
            | exact Wk.refl _
            | (rw [List.take_of_length_le (by simp)]; exact Wk.refl _)
            | (obtain rfl : e_ln = [] := List.eq_nil_of_length_eq_zero hg
               exact Wk.tup ⟨Wk.refl _, id, Wk.nil _, id, trivial⟩)
            | (obtain rfl : k = e_ln.length := hg
               simp only [List.take_length, List.length_map, Nat.le_refl, if_true]
               try rw [List.take_of_length_le (by simp)]
               exact Wk.refl _)
            | trace_state
        · simp -implicitDefEqProofs only [if_neg h0, List.cons_append, List.nil_append]
          have hg : id (k = e_ln.length) := heq
          clear heq
          repeat' with_reducible first | refine gTn_of (fun h => ?_) (fun h => ?_) | refine gT_of (fun h => ?_) (fun h => ?_) | refine caseTn_of (fun h => ?_) (fun h => ?_) | refine caseT_of (fun h => ?_) (fun h => ?_) | refine FN ?_ ?_ ?_ ?_ rfl ?_ | refine kv_ifn ?_ ?_ | refine kv_if ?_ ?_ | refine k_if ?_ ?_ | refine I2 mix x259 lf259 ?_ ?_ ?_ ?_ ?_ | refine I2 mix x251 lf251 ?_ ?_ ?_ ?_ ?_ | refine IA ?_ ?_ ?_ | refine L1 ?_ ?_ | refine L2 ?_ ?_ | refine L3 ?_ ?_ ?_ ?_ | refine L4 ?_ ?_ | refine L5 ?_ ?_ ?_ ?_ ?_ | refine L6 ?_ ?_ ?_ ?_ ?_ | refine ap_nil (rw_slm _ _ _ _ _ _ (by simp -implicitDefEqProofs only [m_get, Nat.reduceEqDiff, reduceIte, if_true, if_false]; first | done | exact rfl) ?_) ?_ ?_ ?_ ?_ | refine ap_of (rw_slm _ _ _ _ _ _ (by simp -implicitDefEqProofs only [m_get, Nat.reduceEqDiff, reduceIte, if_true, if_false]; first | done | exact rfl) ?_) (by simp -implicitDefEqProofs only [m_get, Nat.reduceEqDiff, reduceIte, if_true, if_false]; first | done | exact rfl) ?_ ?_ ?_ ?_ | refine P0 (con95 ?_) ?_ ?_ ?_ | refine ACV.of (con95 ?_) ?_ ?_ ?_ | refine ACK.of (con95 ?_) ?_ ?_ | refine P0 (con225 ?_) ?_ ?_ ?_ | refine ACV.of (con225 ?_) ?_ ?_ ?_ | refine ACK.of (con225 ?_) ?_ ?_ | refine P0 (con258 ?_) ?_ ?_ ?_ | refine ACV.of (con258 ?_) ?_ ?_ ?_ | refine ACK.of (con258 ?_) ?_ ?_ | simp -implicitDefEqProofs only [F223, qA, ld_0, ld_pv, st_0, splice, doEqs, qU, List.reduceReplicate, Nat.reduceAdd, Nat.reduceSub, Nat.reduceLeDiff, Nat.reduceEqDiff, Nat.reduceMul, reduceIte, reduceCtorEq, qI, Nat.reduceLT, Nat.reduceBEq, F259, F251, up_s, Int.toNat_natCast, encT, encV, rw_slv, doBslice, trss_append, lm_normal, lm_exit, lm_ret, Int.natCast_zero, Int.natCast_one, Int.reduceEq, Int.reduceNe, *]
          all_goals first
            | omega
            | (simp only [List.length_take, List.length_drop]; omega)
            | (rw [List.map_append]; rfl)
            | (rw [hT]; simp [encI]; done)
            | (simp [hT, encI]; omega)
            | (simp [encI, List.getD_eq_getElem?_getD, hlt]; done)
            | exact Wk.refl _
            | (rw [List.take_of_length_le (by simp)]; exact Wk.refl _)
            | (obtain rfl : e_ln = [] := List.eq_nil_of_length_eq_zero hg
               exact Wk.tup ⟨Wk.refl _, id, Wk.nil _, id, trivial⟩)
            | (obtain rfl : k = e_ln.length := hg
               simp only [List.take_length, List.length_map, Nat.le_refl, if_true]
               try rw [List.take_of_length_le (by simp)]
               exact Wk.refl _)
            | trace_state
    all_goals first
      | omega
      | (simp -implicitDefEqProofs only [qA, ld_0, ld_pv, st_0, splice, doEqs, qU, List.reduceReplicate, Nat.reduceAdd, Nat.reduceSub, Nat.reduceLeDiff, Nat.reduceEqDiff, Nat.reduceMul, reduceIte, reduceCtorEq, qI, Nat.reduceLT, Nat.reduceBEq, qZ, nl_s, nl_0]; first | done | (simp; done))
      | trace_state
  · have hv' : vCheck ⟨e_ep, e_ln⟩ = false := by simpa using hv
    rw [show vNotifyAll ⟨e_ep, e_ln⟩ = (⟨e_ep, e_ln⟩, []) from by simp [vNotifyAll, hv]]
    refine mcb_of_vc mix x223 (by simp [F223]) fun hw _ => ?_
    clear hw
    repeat' with_reducible first | refine gTn_of (fun h => ?_) (fun h => ?_) | refine gT_of (fun h => ?_) (fun h => ?_) | refine caseTn_of (fun h => ?_) (fun h => ?_) | refine caseT_of (fun h => ?_) (fun h => ?_) | refine FN ?_ ?_ ?_ ?_ rfl ?_ | refine kv_ifn ?_ ?_ | refine kv_if ?_ ?_ | refine k_if ?_ ?_ | refine I2 mix x259 lf259 ?_ ?_ ?_ ?_ ?_ | refine I2 mix x251 lf251 ?_ ?_ ?_ ?_ ?_ | refine IA ?_ ?_ ?_ | refine L1 ?_ ?_ | refine L2 ?_ ?_ | refine L3 ?_ ?_ ?_ ?_ | refine L4 ?_ ?_ | refine L5 ?_ ?_ ?_ ?_ ?_ | refine L6 ?_ ?_ ?_ ?_ ?_ | refine P0 (con95 ?_) ?_ ?_ ?_ | refine ACV.of (con95 ?_) ?_ ?_ ?_ | refine ACK.of (con95 ?_) ?_ ?_ | refine P0 (con225 ?_) ?_ ?_ ?_ | refine ACV.of (con225 ?_) ?_ ?_ ?_ | refine ACK.of (con225 ?_) ?_ ?_ | refine P0 (con258 ?_) ?_ ?_ ?_ | refine ACV.of (con258 ?_) ?_ ?_ ?_ | refine ACK.of (con258 ?_) ?_ ?_ | simp -implicitDefEqProofs only [F223, qA, ld_0, ld_pv, st_0, splice, doEqs, qU, List.reduceReplicate, Nat.reduceAdd, Nat.reduceSub, Nat.reduceLeDiff, Nat.reduceEqDiff, Nat.reduceMul, reduceIte, reduceCtorEq, qI, Nat.reduceLT, Nat.reduceBEq, F259, F251, up_s, Int.toNat_natCast, encT, encV, rw_slv, doBslice, trss_append, lm_normal, lm_exit, lm_ret, Int.natCast_zero, Int.natCast_one, Int.reduceEq, Int.reduceNe, *]
    all_goals first
      | omega
      | (simp at hl ⊢; omega)
      | exact Wk.tup ⟨Wk.refl _, id, Wk.nil _, id, trivial⟩
      | trace_state

def F256 : AFn := ⟨8, (.seq (.reg [o1 1 (.box 29 0), o1 2 (.alloc 29 [(.int .i64 0), .slnil]), o1 3 (.mv (.const .slnil))]) (.seq (.reg [o1 4 (.ld 2 true 1), o1 5 (.call 223 [4, (.func 259)]), o1 6 (.ext 5 0), o1 7 (.ext 5 1), o2 (.st 2 2 6), o1 3 (.mv 7)]) .ret)), [(2, some (2, true)), (3, none)]⟩
theorem x256 : xf Tryz.prog 256 = some F256 := by kernel_rfl
theorem con256 {e_ep : Int} {e_ln : List Int} (hl : e_ln.length ≤ 100000000) : Con Tryz.prog 256 [.agg [.int .i64 e_ep, .slv 1 (e_ln.map encI)]] ((.tup [.agg (encV ((vNotifyAll (Event.mk e_ep e_ln)).1)), .slv 1 (((vNotifyAll (Event.mk e_ep e_ln)).2).map encI)]), [], []) := by
  refine mcb_of_vc mix x256 (by simp [F256]) fun hw _ => ?_
  simp only [wfs, AV.wf, inR_i64] at hw
  repeat' with_reducible first | refine gTn_of (fun h => ?_) (fun h => ?_) | refine gT_of (fun h => ?_) (fun h => ?_) | refine caseTn_of (fun h => ?_) (fun h => ?_) | refine caseT_of (fun h => ?_) (fun h => ?_) | refine fin_pure ?_ ?_ ?_ ?_ | refine kv_ifn ?_ ?_ | refine kv_if ?_ ?_ | refine k_if ?_ ?_ | refine P0 (con223a ?_) ?_ ?_ ?_ | simp -implicitDefEqProofs only [F256, qA, doLd, doSt, splice, doEqs, qU, List.reduceReplicate, Nat.reduceAdd, Nat.reduceSub, Nat.reduceLeDiff, Nat.reduceEqDiff, Nat.reduceMul, reduceIte, reduceCtorEq, encV, len_slv, List.length_map, *]
  all_goals first
    | (simp; done)
    | exact idxF_any
    | exact idxF_any.symm
    | grind [inR_i64, wrap64, maxLen_eq]

end Go.Sak
namespace Go.Sak
open Go Go.RowKit Go.Proofs
set_option linter.unusedVariables false
set_option linter.unusedSimpArgs false
set_option maxRecDepth 10000
set_option maxHeartbeats 8000000
def F236 : AFn := ⟨28, (.seq (.reg [o1 2 (.box 33 0), o1 4 (.mv (.const (.bool false)))]) (.seq (.reg [o1 5 (.mv (.func 253))]) (.seq (.reg [o1 6 (.ld 20 true 2), o1 7 (.call 32 [6]), o1 8 (.mv 7), o3 9 (.mv 1) 8, o3 10 (.bin .geq 9 (ci 0)) 8, o1 11 (.pick 8 10 (.const (.bool false))), o1 12 (.mv 11), o3 13 (.mv 1) 12, o3 14 (.faddr 18 2) 12, o3 15 (.ld 1 false 14) 12, o3 16 (.len 15) 12, o3 17 (.bin .lss 13 16) 12, o1 18 (.pick 12 17 (.const (.bool false))), o1 19 (.mv 18), o3 20 (.mv 5) 19, o3 21 (.faddr 18 2) 19, o3 22 (.ld 1 false 21) 19, o3 23 (.mv 1) 19, o3 24 (.iaddr 11 22 23) 19, o3 25 (.ld 11 true 24) 19, o3 26 (.callv 20 [25]) 19, o1 27 (.pick 19 26 (.const (.bool false))), o1 4 (.mv 27)]) .ret))), [(4, none)]⟩
theorem x236 : xf Tryz.prog 236 = some F236 := by kernel_rfl
def F253 : AFn := ⟨12, (.seq (.reg [o1 1 (.box 44 0), o1 2 (.mv (.const (.bool false)))]) (.seq (.reg [o1 3 (.ld 11 true 1), o1 4 (.call 124 [3]), o1 5 (.bin .eql 4 (ci 0)), o1 6 (.mv 5), o3 7 (.faddr 1 1) 6, o3 8 (.ld 1 false 7) 6, o3 9 (.call 126 [8]) 6, o3 10 (.bin .eql 9 (ci 3)) 6, o1 11 (.pick 6 10 (.const (.bool false))), o1 2 (.mv 11)]) .ret)), [(2, none)]⟩
theorem x253 : xf Tryz.prog 253 = some F253 := by kernel_rfl
theorem con253 {t_st t_kind : Int} {t_val t_untl : Int} {t_pc t_reg : Int} {t_seen t_tries : Int} {t_late : Bool} {t_res t_got : Int}  : Con Tryz.prog 253 [.agg [.int .i64 t_st, .int .i64 t_kind, .int .i64 t_val, .int .i64 t_untl, .int .i64 t_pc, .int .i64 t_reg, .int .i64 t_seen, .int .i64 t_tries, .bool t_late, .int .i64 t_res, .int .i64 t_got]] ((.bool ((decide (tRuns (Thread.mk t_st t_kind t_val t_untl t_pc t_reg t_seen t_tries t_late t_res t_got) = 0) && decide (opSide ((Thread.mk t_st t_kind t_val t_untl t_pc t_reg t_seen t_tries t_late t_res t_got)).kind = 3)))), [], []) := by
  refine mcb_of_vc mix x253 (by simp [F253]) fun hw _ => ?_
  simp only [wfs, AV.wf, inR_i64] at hw
  repeat' with_reducible first | refine gTn_of (fun h => ?_) (fun h => ?_) | refine gT_of (fun h => ?_) (fun h => ?_) | refine caseTn_of (fun h => ?_) (fun h => ?_) | refine caseT_of (fun h => ?_) (fun h => ?_) | refine fin_pure ?_ ?_ ?_ ?_ | refine kv_ifn ?_ ?_ | refine kv_if ?_ ?_ | refine k_if ?_ ?_ | refine P0 (con124) ?_ ?_ ?_ | refine ACV.of (con124) ?_ ?_ ?_ | refine ACK.of (con124) ?_ ?_ | refine P0 (con126) ?_ ?_ ?_ | refine ACV.of (con126) ?_ ?_ ?_ | refine ACK.of (con126) ?_ ?_ | simp -implicitDefEqProofs only [F253, qA, doLd, doSt, splice, doEqs, qU, List.reduceReplicate, Nat.reduceAdd, Nat.reduceSub, Nat.reduceLeDiff, Nat.reduceEqDiff, Nat.reduceMul, reduceIte, reduceCtorEq, encT, *]
  all_goals first
    | (simp; done)
    | exact idxF_any
    | exact idxF_any.symm
    | grind [inR_i64, wrap64, maxLen_eq]

theorem con236 {s_lg s_th : Int} {s_pol s_wt : Int} {s_spin s_yld : Int} {s_single : Bool} {s_h s_t s_m : Int} {s_slots : List Slot} {s_sends s_recvs : List Int} {s_fe : Int} {s_fl : List Int} {s_ee : Int} {s_el : List Int} {s_now : Int} {s_thr : List Thread} {s_log : List Entry} {id : Int} (h1 : s_slots.length ≤ 100000000) (h2 : s_sends.length ≤ 100000000) (h3 : s_recvs.length ≤ 100000000) (h4 : s_fl.length ≤ 100000000) (h5 : s_el.length ≤ 100000000) (h6 : s_thr.length ≤ 100000000) (h7 : s_log.length ≤ 100000000) : Con Tryz.prog 236 [.agg [.int .i64 s_lg, .int .i64 s_th, .int .i64 s_pol, .int .i64 s_wt, .int .i64 s_spin, .int .i64 s_yld, .bool s_single, .int .i64 s_h, .int .i64 s_t, .int .i64 s_m, .slv 2 (s_slots.map encS), .slv 1 (s_sends.map encI), .slv 1 (s_recvs.map encI), .int .i64 s_fe, .slv 1 (s_fl.map encI), .int .i64 s_ee, .slv 1 (s_el.map encI), .int .i64 s_now, .slv 11 (s_thr.map encT), .slv 5 (s_log.map encE)], .int .i64 id] (.bool (cIs (State.mk (Config.mk s_lg s_th s_pol s_wt s_spin s_yld s_single) (Word.mk s_h s_t s_m) s_slots s_sends s_recvs (Event.mk s_fe s_fl) (Event.mk s_ee s_el) s_now s_thr s_log) id), [], []) := by
  refine mcb_of_vc mix x236 (by simp [F236]) fun hw _ => ?_
  clear hw
  repeat' with_reducible first | refine gTn_of (fun h => ?_) (fun h => ?_) | refine gT_of (fun h => ?_) (fun h => ?_) | refine caseTn_of (fun h => ?_) (fun h => ?_) | refine caseT_of (fun h => ?_) (fun h => ?_) | refine fin_pure ?_ ?_ ?_ ?_ | refine kv_ifn ?_ ?_ | refine kv_if ?_ ?_ | refine k_if ?_ ?_ | refine P0 (con32 ?_ ?_ ?_ ?_ ?_ ?_ ?_) ?_ ?_ ?_ | refine ia_of (d := default) ?_ ?_ | refine L1 ?_ ?_ | refine L2 ?_ ?_ | refine L3 ?_ ?_ ?_ ?_ | refine L4 ?_ ?_ | refine L5 ?_ ?_ ?_ ?_ ?_ | refine L6 ?_ ?_ ?_ ?_ ?_ | refine P0 (con253) ?_ ?_ ?_ | refine ACV.of (con253) ?_ ?_ ?_ | refine ACK.of (con253) ?_ ?_ | simp -implicitDefEqProofs only [F236, qA, ld_0, ld_pv, st_0, splice, doEqs, qU, List.reduceReplicate, Nat.reduceAdd, Nat.reduceSub, Nat.reduceLeDiff, Nat.reduceEqDiff, Nat.reduceMul, reduceIte, reduceCtorEq, qI, Nat.reduceLT, Nat.reduceBEq, encT, Int.toNat_natCast, *]
  all_goals first
    | omega
    | (simp at *; omega)
    | grind [cIs, fabIs, me]
    | (simp only [cIs, fabIs, me]; simp_all; done)
    | (simp only [cIs, fabIs, me]; simp_all; omega)
    | trace_state

def F255 : AFn := ⟨8, (.seq (.reg [o1 2 (.mv (ci 0))]) (.seq (.seq (.reg [o1 3 (.mv 0)]) (.block 0 (.seq (.reg [o1 5 (.bin .eql 3 (ci 7)), o1 4 (.mv 5)]) (.cond 4 (.seq (.reg [o1 2 (.mv (ci 1))]) .ret) (.seq (.reg [o1 7 (.bin .eql 3 (ci 8)), o1 6 (.mv 7)]) (.cond 6 (.seq (.reg [o1 2 (.mv (ci 2))]) .ret) .skip)))))) (.seq (.reg [o1 2 (.mv (ci 0))]) .ret))), [(2, none)]⟩
theorem x255 : xf Tryz.prog 255 = some F255 := by kernel_rfl
theorem con255 {k : Int}  : Con Tryz.prog 255 [.int .i64 k] ((.int .i64 (cMode k)), [], []) := by
  refine mcb_of_vc mix x255 (by simp [F255]) fun hw _ => ?_
  simp only [wfs, AV.wf, inR_i64] at hw
  repeat' with_reducible first | refine gTn_of (fun h => ?_) (fun h => ?_) | refine gT_of (fun h => ?_) (fun h => ?_) | refine caseTn_of (fun h => ?_) (fun h => ?_) | refine caseT_of (fun h => ?_) (fun h => ?_) | refine fin_pure ?_ ?_ ?_ ?_ | refine kv_ifn ?_ ?_ | refine kv_if ?_ ?_ | refine k_if ?_ ?_ | simp -implicitDefEqProofs only [F255, qA, doLd, doSt, splice, doEqs, qU, List.reduceReplicate, Nat.reduceAdd, Nat.reduceSub, Nat.reduceLeDiff, Nat.reduceEqDiff, Nat.reduceMul, reduceIte, reduceCtorEq, *]
  all_goals first
    | (simp; done)
    | exact idxF_any
    | exact idxF_any.symm
    | grind [inR_i64, wrap64, maxLen_eq, cMode]

def F237 : AFn := ⟨13, (.seq (.reg [o1 2 (.mv (.const .nilp))]) (.seq (.regT [o1 3 (.mv 0), o1 4 (.nilchk 3), o1 5 (.faddr 0 4), o1 6 (.faddr 18 5), o1 7 (.ld 1 false 6), o1 8 (.mv 0), o1 9 (.nilchk 8), o1 10 (.faddr 20 9), o1 11 (.ld 1 false 10), o1 12 (.iaddr 11 7 11), o1 2 (.mv 12)] [(1, 6), (2, 6), (3, 6), (4, 6), (1, 7), (2, 7), (3, 7), (4, 7), (1, 8), (2, 8), (3, 8), (4, 8)]) .ret)), [(2, none)]⟩
theorem x237 : xf Tryz.prog 237 = some F237 := by kernel_rfl
theorem lf237 : F237.code.lf = true := rfl
def F238 : AFn := ⟨37, (.seq (.reg [o1 3 (.mv 0), o1 4 (.call 237 [3]), o1 5 (.nilchk 4), o1 6 (.faddr 1 5), o1 7 (.ld 1 false 6), o1 2 (.mv 7)]) (.seq (.regT [o1 8 (.mv 0), o1 9 (.mv 0), o1 10 (.nilchk 9), o1 11 (.faddr 0 10), o1 12 (.faddr 7 11), o1 13 (.ld 3 true 12), o1 14 (.mv 2), o1 15 (.call 255 [14]), o1 16 (.call 254 [13, 15]), o1 17 (.nilchk 8), o1 18 (.faddr 0 17), o1 19 (.faddr 7 18), o2 (.st 3 19 16)] [(2, 7), (3, 7), (4, 7), (5, 7)]) (.seq (.regT [o1 20 (.mv 0), o1 21 (.mv 0), o1 22 (.nilchk 21), o1 23 (.faddr 0 22), o1 24 (.ld 20 true 23), o1 25 (.mv 0), o1 26 (.nilchk 25), o1 27 (.faddr 20 26), o1 28 (.ld 1 false 27), o1 29 (.mv 2), o1 30 (.call 222 [24, 28, 29, (ci 1), (ci 0)]), o1 31 (.nilchk 20), o1 32 (.faddr 0 31), o2 (.st 20 32 30)] [(2, 6), (3, 6), (4, 6), (2, 7), (3, 7), (4, 7), (2, 8), (3, 8), (4, 8)]) (.reg [o1 33 (.mv 0), o1 34 (.call 237 [33]), o1 35 (.nilchk 34), o1 36 (.faddr 4 35), o2 (.st 1 36 (ci 1))])))), []⟩
theorem x238 : xf Tryz.prog 238 = some F238 := by kernel_rfl
theorem lf238 : F238.code.lf = true := rfl
def F239 : AFn := ⟨34, (.seq (.reg [o1 9 (.mv 1), o1 10 (.nilchk 9), o1 11 (.ld 2 true 10), o1 12 (.call 256 [11]), o1 8 (.mv 12), o1 13 (.ext 8 0), o1 14 (.ext 8 1), o1 4 (.alloc 29 [(.int .i64 0), .slnil]), o2 (.st 2 4 13), o1 5 (.mv 14)]) (.seq (.reg [o1 15 (.mv 1), o1 16 (.ld 2 true 4), o1 17 (.nilchk 15), o2 (.st 2 17 16)]) (.seq (.reg [o1 18 (.mv 5), o1 19 (.len 18), o1 20 (.mv (ci 0))]) (.block 0 (.loop (.seq (.reg [o1 21 (.bin .lss 20 19)]) (.seq (.cond 21 .skip (.exit 0)) (.seq (.block 1 (.seq (.reg [o1 22 (.iaddr 1 18 20), o1 23 (.ld 1 false 22), o1 7 (.mv 23)]) (.reg [o1 24 (.mv 0), o1 25 (.mv 0), o1 26 (.nilchk 25), o1 27 (.faddr 0 26), o1 28 (.ld 20 true 27), o1 29 (.mv 7), o1 30 (.call 53 [28, 29]), o1 31 (.nilchk 24), o1 32 (.faddr 0 31), o2 (.st 20 32 30)]))) (.reg [o1 33 (.bin .add 20 (ci 1)), o1 20 (.mv 33)]))))))))), []⟩
theorem x239 : xf Tryz.prog 239 = some F239 := by kernel_rfl
def F212 : AFn := ⟨61, (.seq (.reg [o1 2 (.box 33 0), o1 4 (.alloc 33 [(.int .i64 0), (.int .i64 0), (.int .i64 0), (.int .i64 0), (.int .i64 0), (.int .i64 0), (.bool false), (.int .i64 0), (.int .i64 0), (.int .i64 0), .slnil, .slnil, .slnil, (.int .i64 0), .slnil, (.int .i64 0), .slnil, (.int .i64 0), .slnil, .slnil])]) (.seq (.reg [o1 6 (.ld 20 true 2), o1 7 (.call 53 [6, (ci (-1))]), o1 8 (.mv 1), o1 9 (.build [(.int .i64 0), (.int .i64 0), (.int .i64 0), (.int .i64 0), (.int .i64 0), (.int .i64 0), (.bool false), (.int .i64 0), (.int .i64 0), (.int .i64 0), .slnil, .slnil, .slnil, (.int .i64 0), .slnil, (.int .i64 0), .slnil, (.int .i64 0), .slnil, .slnil, (.int .i64 0)] [(0, 20, 7), (20, 1, 8)]), o1 10 (.box 189 9), o1 5 (.mv 10)]) (.seq (.seq (.reg [o1 11 (.ld 20 true 2), o1 12 (.mv 1), o1 13 (.call 236 [11, 12]), o1 14 (.not 13)]) (.cond 14 (.seq (.reg [o1 15 (.mv 5), o1 16 (.nilchk 15), o1 17 (.faddr 0 16), o1 18 (.ld 20 true 17), o2 (.st 20 4 18)]) .ret) .skip)) (.seq (.seq (.reg [o1 19 (.mv 5), o1 20 (.call 237 [19]), o1 21 (.nilchk 20), o1 22 (.faddr 4 21), o1 23 (.ld 1 false 22)]) (.block 0 (.seq (.reg [o1 42 (.bin .eql 23 (ci 0)), o1 41 (.mv 42)]) (.cond 41 (.reg [o1 43 (.mv 5), o1 44 (.call 238 [43])]) (.seq (.reg [o1 46 (.bin .eql 23 (ci 1)), o1 45 (.mv 46)]) (.cond 45 (.seq (.reg [o1 47 (.mv 5), o1 48 (.mv 5), o1 49 (.nilchk 48), o1 50 (.faddr 0 49), o1 51 (.faddr 13 50), o1 52 (.call 239 [47, 51])]) (.reg [o1 53 (.mv 5), o1 54 (.call 237 [53]), o1 55 (.nilchk 54), o1 56 (.faddr 4 55), o2 (.st 1 56 (ci 2))])) (.seq (.reg [o1 24 (.mv 5), o1 25 (.mv 5), o1 26 (.nilchk 25), o1 27 (.faddr 0 26), o1 28 (.faddr 15 27), o1 29 (.call 239 [24, 28])]) (.reg [o1 31 (.mv 5), o1 32 (.call 237 [31]), o1 33 (.mv 5), o1 34 (.call 237 [33]), o1 35 (.nilchk 34), o1 36 (.ld 11 true 35), o1 37 (.call 147 [36]), o1 30 (.mv 37), o1 38 (.ext 30 0), o1 39 (.ext 30 1), o1 40 (.nilchk 32), o2 (.st 11 40 38)])))))))) (.seq (.reg [o1 57 (.mv 5), o1 58 (.nilchk 57), o1 59 (.faddr 0 58), o1 60 (.ld 20 true 59), o2 (.st 20 4 60)]) .ret))))), [(4, some (20, true))]⟩
theorem x212 : xf Tryz.prog 212 = some F212 := by kernel_rfl
theorem cIs_fab {s : State} {id : Int} (h : cIs s id = true) : fabIs s id = true := by
  simp only [cIs, Bool.and_eq_true] at h; exact h.1.1
theorem fabIs_wordC {c : Config} {w0 w : Word} {sl : List Slot} {a b : List Int} {f e : Event} {n : Int} {th : List Thread} {lg : List Entry} {id : Int} (h : cIs ⟨c, w0, sl, a, b, f, e, n, th, lg⟩ id = true) (hw : posCheck w0 sl.length = true → posCheck w sl.length = true) : fabIs ⟨c, ⟨w.h, w.t, w.m⟩, sl, a, b, f, e, n, th, lg⟩ id = true := fabIs_word (s := ⟨c, w0, sl, a, b, f, e, n, th, lg⟩) (cIs_fab h) hw
theorem con212_0 {s_lg s_th : Int} {s_pol s_wt : Int} {s_spin s_yld : Int} {s_single : Bool} {s_h s_t s_m : Int} {s_slots : List Slot} {s_sends s_recvs : List Int} {s_fe : Int} {s_fl : List Int} {s_ee : Int} {s_el : List Int} {s_now : Int} {s_thr : List Thread} {s_log : List Entry} {id : Int} (h1 : s_slots.length ≤ 100000000) (h2 : s_sends.length ≤ 100000000) (h3 : s_recvs.length ≤ 100000000) (h4 : s_fl.length ≤ 100000000) (h5 : s_el.length ≤ 100000000) (h6 : s_thr.length ≤ 100000000) (h7 : s_log.length ≤ 100000000) (hI : cIs (State.mk (Config.mk s_lg s_th s_pol s_wt s_spin s_yld s_single) (Word.mk s_h s_t s_m) s_slots s_sends s_recvs (Event.mk s_fe s_fl) (Event.mk s_ee s_el) s_now s_thr s_log) id = true) (hpc : (s_thr.getD id.toNat default).pc = 0) : Con Tryz.prog 212 [.agg [.int .i64 s_lg, .int .i64 s_th, .int .i64 s_pol, .int .i64 s_wt, .int .i64 s_spin, .int .i64 s_yld, .bool s_single, .int .i64 s_h, .int .i64 s_t, .int .i64 s_m, .slv 2 (s_slots.map encS), .slv 1 (s_sends.map encI), .slv 1 (s_recvs.map encI), .int .i64 s_fe, .slv 1 (s_fl.map encI), .int .i64 s_ee, .slv 1 (s_el.map encI), .int .i64 s_now, .slv 11 (s_thr.map encT), .slv 5 (s_log.map encE)], .int .i64 id] (.agg (encZ (cShut (State.mk (Config.mk s_lg s_th s_pol s_wt s_spin s_yld s_single) (Word.mk s_h s_t s_m) s_slots s_sends s_recvs (Event.mk s_fe s_fl) (Event.mk s_ee s_el) s_now s_thr s_log) id)), [], []) := by
  have hI' := hI
  simp only [cIs, fabIs, Bool.and_eq_true, decide_eq_true_eq] at hI'
  obtain ⟨⟨⟨⟨hchk, hge⟩, hlt⟩, hruns⟩, hside⟩ := hI'
  have hid : id.toNat < s_thr.length := by omega
  have hne : s_thr ≠ [] := by intro h; subst h; simp at hlt; omega
  refine mcb_of_vc mix x212 (by simp [F212]) fun hw _ => ?_
  clear hw
  repeat' with_reducible first | refine gTn_of (fun h => ?_) (fun h => ?_) | refine gT_of (fun h => ?_) (fun h => ?_) | refine caseTn_of (fun h => ?_) (fun h => ?_) | refine caseT_of (fun h => ?_) (fun h => ?_) | refine FN ?_ ?_ ?_ ?_ rfl ?_ | refine kv_ifn ?_ ?_ | refine kv_if ?_ ?_ | refine k_if ?_ ?_ | refine I2 mix x238 lf238 ?_ ?_ ?_ ?_ ?_ | refine IA ?_ ?_ ?_ | refine L1 ?_ ?_ | refine L2 ?_ ?_ | refine L3 ?_ ?_ ?_ ?_ | refine L4 ?_ ?_ | refine L5 ?_ ?_ ?_ ?_ ?_ | refine L6 ?_ ?_ ?_ ?_ ?_ | refine N1 (con53m ?_ ?_ ?_ ?_ ?_ ?_ ?_ hne) ?_ ?_ | refine P0 (con236 ?_ ?_ ?_ ?_ ?_ ?_ ?_) ?_ ?_ ?_ | refine I3 mix x237 lf237 ?_ ?_ ?_ ?_ ?_ | refine inr_fin ?_ ?_ ?_ ?_ | refine GN 222 ?_ ?_ ?_ | refine ACN.of (con222n ?_ ?_ ?_ ?_ ?_ ?_ ?_ ?_) ?_ | refine P0 (con254) ?_ ?_ ?_ | refine ACV.of (con254) ?_ ?_ ?_ | refine ACK.of (con254) ?_ ?_ | refine P0 (con255) ?_ ?_ ?_ | refine ACV.of (con255) ?_ ?_ ?_ | refine ACK.of (con255) ?_ ?_ | simp -implicitDefEqProofs only [F212, qA, ld_0, ld_pv, st_0, splice, doEqs, qU, List.reduceReplicate, Nat.reduceAdd, Nat.reduceSub, Nat.reduceLeDiff, Nat.reduceEqDiff, Nat.reduceMul, reduceIte, reduceCtorEq, qI, Nat.reduceLT, Nat.reduceBEq, F238, up_s, Int.toNat_natCast, encT, encX, encV, encW, hpc, hI, Int.reduceToNat, Nat.mul_one, tell_len, wake_len, Int.reduceLE, Int.reduceLT, Int.reduceEq, Int.reduceNe, Int.toNat_zero, Int.toNat_one, Int.le_refl, set_set, getD_set_same, F237, *]
  all_goals first
    | omega
    | (constructor <;> omega)
    | exact Wk.refl _
    | (with_reducible refine fabIs_wordC hI ?_
       exact fun h => wp_close h)
    | (simp only [cIs, Bool.and_eq_true] at hI; with_reducible exact hI.1.1)
    | (refine Wk.of_eq ?_
       have htr := tries_of hchk hge hlt
       try simp only [decide_eq_true_eq, decide_eq_false_iff_not, Bool.not_eq_true] at *
       unfold cShut
       try simp only [me] at *
       have hw := wrap64_tries htr
       clear hchk hI hside hruns htr
       try simp only [*, reduceIte, if_true, if_false, Bool.false_eq_true, and_true, true_and, and_false, false_and, and_self, not_true_eq_false, not_false_eq_true, ne_eq, Int.reduceEq, Int.reduceNe]
       try rw [List.take_of_length_le (by simp [tell_len, wake_len])]
       simp only [encZ, encX, encV, encC, withWord, withSlots, withSends, withFull, withEmpty, rOn, rAt, rEnds, rTell, setPc, setReg, setSeen, put1, setTries, me, getD_set_same, set_set, List.length_set, tf_cfg, tf_word, tf_slots, tf_sends, tf_recvs, tf_full, tf_empty, tf_now, tw_cfg, tw_word, tw_slots, tw_sends, tw_recvs, tw_full, tw_empty, tw_now, tw_log, thr_pc hpc, *]
       done)
    | trace_state

end Go.Sak
