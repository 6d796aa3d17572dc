/- Part S19 of the proofs about the program: K16. Conditions: none. -/
import Derived.Test.YtojlofaafkdhgaaGreatS18
import Derived.Test.YtojlofaafkdhgaaGreatS04
import Derived.Test.YtojlofaafkdhgaaGreatProg
import Derived.KernelRfl
namespace Go.Sak
open Go Go.RowKit Go.Proofs
set_option linter.unusedVariables false
set_option linter.unusedSimpArgs false
set_option maxRecDepth 10000
set_option maxHeartbeats 8000000
section
variable {P : Program} {m : AM} {b : Nat}
theorem fin_tl {v : AV} {e : Ef} {t l : Nat} (h : pickN 1 v.nms [] = [t, l]) (h1 : stOk 1 16 [l] [(t, 1)] m = true) (hz : zPure m [l] = true) (hw : v.tr (stT 1 16 [l] [(t, 1)] m) = e.1) (hm : stM 1 16 [l] [(t, 1)] (stT 1 16 [l] [(t, 1)] m) m = AM.upd [] e.2.1) : FinS 1 [] e v m b :=
  fin_new [l] [(t, 1)] h1 hz hw (by rw [hm])
theorem fin_t {v : AV} {e : Ef} {t : Nat} (h : pickN 1 v.nms [] = [t]) (h1 : stOk 1 16 [] [(t, 1)] m = true) (hw : v.tr (stT 1 16 [] [(t, 1)] m) = e.1) (hm : stM 1 16 [] [(t, 1)] (stT 1 16 [] [(t, 1)] m) m = AM.upd [] e.2.1) : FinS 1 [] e v m b :=
  fin_new [] [(t, 1)] h1 rfl hw (by rw [hm])
theorem wk_log {x y : AV} (h : Wk x y) (h1 : x.one = true → y.one = true) {c0 c1 c2 c3 c4 c5 c6 c7 c8 c9 c10 c11 c12 c13 c14 c15 c16 c17 c18 : AV} : Wk (.agg [c0, c1, c2, c3, c4, c5, c6, c7, c8, c9, c10, c11, c12, c13, c14, c15, c16, c17, c18, x]) (.agg [c0, c1, c2, c3, c4, c5, c6, c7, c8, c9, c10, c11, c12, c13, c14, c15, c16, c17, c18, y]) := by
  refine Wk.agg ?_
  simp only [Wks]
  exact ⟨Wk.refl _, id, Wk.refl _, id, Wk.refl _, id, Wk.refl _, id, Wk.refl _, id, Wk.refl _, id, Wk.refl _, id, Wk.refl _, id, Wk.refl _, id, Wk.refl _, id, Wk.refl _, id, Wk.refl _, id, Wk.refl _, id, Wk.refl _, id, Wk.refl _, id, Wk.refl _, id, Wk.refl _, id, Wk.refl _, id, Wk.refl _, id, h, h1, trivial⟩
theorem con_wk {f : FuncId} {x y : AV} {xs : List AV} {e : Ef} (hw : Wk x y) (h : Con P f (y :: xs) e) : Con P f (x :: xs) e := by
  refine ⟨h.1, fun c hc hm hU vs hvs => h.2 c hc hm hU vs ⟨by simpa using hvs.1, fun i z hi => ?_⟩⟩
  cases i with
  | zero => simp at hi; subst hi; exact hw _ _ (hvs.2 0 _ rfl)
  | succ i => exact hvs.2 (i + 1) z (by simpa using hi)
theorem con_l0 {f : FuncId} {xs : List AV} {e : Ef} {c0 c1 c2 c3 c4 c5 c6 c7 c8 c9 c10 c11 c12 c13 c14 c15 c16 c17 c18 : AV} (h : Con P f (.agg [c0, c1, c2, c3, c4, c5, c6, c7, c8, c9, c10, c11, c12, c13, c14, c15, c16, c17, c18, .slv 5 (([] : List Entry).map encE)] :: xs) e) : Con P f (.agg [c0, c1, c2, c3, c4, c5, c6, c7, c8, c9, c10, c11, c12, c13, c14, c15, c16, c17, c18, .slnil] :: xs) e := con_wk (wk_log (Wk.nil 5) id) h
theorem con_le {f : FuncId} {xs : List AV} {e : Ef} {c0 c1 c2 c3 c4 c5 c6 c7 c8 c9 c10 c11 c12 c13 c14 c15 c16 c17 c18 : AV} (h : Con P f (.agg [c0, c1, c2, c3, c4, c5, c6, c7, c8, c9, c10, c11, c12, c13, c14, c15, c16, c17, c18, .slv 5 (([] : List Entry).map encE)] :: xs) e) : Con P f (.agg [c0, c1, c2, c3, c4, c5, c6, c7, c8, c9, c10, c11, c12, c13, c14, c15, c16, c17, c18, .sle 5] :: xs) e := con_wk (wk_log (Wk.sle 5) id) h
theorem con_lc {f : FuncId} {xs : List AV} {e : Ef} {c0 c1 c2 c3 c4 c5 c6 c7 c8 c9 c10 c11 c12 c13 c14 c15 c16 c17 c18 : AV} (h1 : Con P f (.agg [c0, c1, c2, c3, c4, c5, c6, c7, c8, c9, c10, c11, c12, c13, c14, c15, c16, c17, c18, .slnil] :: xs) e) (h2 : Con P f (.agg [c0, c1, c2, c3, c4, c5, c6, c7, c8, c9, c10, c11, c12, c13, c14, c15, c16, c17, c18, .sle 5] :: xs) e) : Con P f (.agg [c0, c1, c2, c3, c4, c5, c6, c7, c8, c9, c10, c11, c12, c13, c14, c15, c16, c17, c18, .slv 5 (([] : List Entry).map encE)] :: xs) e :=
  con_nila (pre := [c0, c1, c2, c3, c4, c5, c6, c7, c8, c9, c10, c11, c12, c13, c14, c15, c16, c17, c18]) (post := []) h1 h2
end
theorem con53m {s_lg s_th : Int} {s_pol s_wt : Int} {s_spin s_yld : Int} {s_single : Bool} {s_h s_t s_m : Int} {s_slots : List Slot} {s_sends s_recvs : List Int} {s_fe : Int} {s_fl : List Int} {s_ee : Int} {s_el : List Int} {s_now : Int} {s_thr : List Thread} {s_log : List Entry} (h1 : s_slots.length ≤ 100000000) (h2 : s_sends.length ≤ 100000000) (h3 : s_recvs.length ≤ 100000000) (h4 : s_fl.length ≤ 100000000) (h5 : s_el.length ≤ 100000000) (h6 : s_thr.length ≤ 100000000) (h7 : s_log.length ≤ 100000000) (hne : s_thr ≠ []) : Con Tryz.prog 53 [.agg [.int .i64 s_lg, .int .i64 s_th, .int .i64 s_pol, .int .i64 s_wt, .int .i64 s_spin, .int .i64 s_yld, .bool s_single, .int .i64 s_h, .int .i64 s_t, .int .i64 s_m, .slv 2 (s_slots.map encS), .slv 1 (s_sends.map encI), .slv 1 (s_recvs.map encI), .int .i64 s_fe, .slv 1 (s_fl.map encI), .int .i64 s_ee, .slv 1 (s_el.map encI), .int .i64 s_now, .slv 11 (s_thr.map encT), .slv 5 (s_log.map encE)], .int .i64 (-1)] (.agg (encX (State.mk (Config.mk s_lg s_th s_pol s_wt s_spin s_yld s_single) (Word.mk s_h s_t s_m) s_slots s_sends s_recvs (Event.mk s_fe s_fl) (Event.mk s_ee s_el) s_now s_thr s_log) (.slm 1 s_thr.length) (.slv 5 (s_log.map encE))), [(1, some (.rows 44 11 (s_thr.map encT)))], []) := by
  have hm1 : decide ((-1 : Int) ≥ 0) = false := by decide
  refine mcb_of_vc mix x53 (by simp [F53]) fun hw _ => ?_
  clear hw
  repeat' with_reducible first | refine gTn_of (fun h => ?_) (fun h => ?_) | refine gT_of (fun h => ?_) (fun h => ?_) | refine caseTn_of (fun h => ?_) (fun h => ?_) | refine caseT_of (fun h => ?_) (fun h => ?_) | refine fin_t (by simp -implicitDefEqProofs only [qA, ld_0, ld_pv, st_0, splice, doEqs, qU, List.reduceReplicate, Nat.reduceAdd, Nat.reduceSub, Nat.reduceLeDiff, Nat.reduceEqDiff, Nat.reduceMul, reduceIte, reduceCtorEq, qI, Nat.reduceLT, Nat.reduceBEq, *]; exact rfl) ?_ ?_ ?_ | refine kv_ifn ?_ ?_ | refine kv_if ?_ ?_ | refine k_if ?_ ?_ | refine I0 mix x101 lf101 ?_ ?_ ?_ ?_ ?_ | refine I0 mix x100 lf100 ?_ ?_ ?_ ?_ ?_ | refine IA ?_ ?_ ?_ | refine L1 ?_ ?_ | refine L2 ?_ ?_ | refine L3 ?_ ?_ ?_ ?_ | refine L4 ?_ ?_ | refine L5 ?_ ?_ ?_ ?_ ?_ | refine L6 ?_ ?_ ?_ ?_ ?_ | refine P0 (con32 ?_ ?_ ?_ ?_ ?_ ?_ ?_) ?_ ?_ ?_ | refine N1 (con184g hne ?_) ?_ ?_ | refine P0 (con183 ?_) ?_ ?_ ?_ | refine ACV.of (con183 ?_) ?_ ?_ ?_ | refine ACK.of (con183 ?_) ?_ ?_ | refine P0 (con182 ?_) ?_ ?_ ?_ | refine ACV.of (con182 ?_) ?_ ?_ ?_ | refine ACK.of (con182 ?_) ?_ ?_ | refine P0 (con185 ?_) ?_ ?_ ?_ | refine ACV.of (con185 ?_) ?_ ?_ ?_ | refine ACK.of (con185 ?_) ?_ ?_ | simp -implicitDefEqProofs only [F53, qA, ld_0, ld_pv, st_0, splice, doEqs, qU, List.reduceReplicate, Nat.reduceAdd, Nat.reduceSub, Nat.reduceLeDiff, Nat.reduceEqDiff, Nat.reduceMul, reduceIte, reduceCtorEq, qI, Nat.reduceLT, Nat.reduceBEq, F101, F100, up_s, Int.toNat_natCast, encT, Int.reduceLE, hm1, *]
  all_goals first
    | omega
    | rfl
    | trace_state

end Go.Sak
