/- Part S34 of the proofs about the program: K35. Conditions: none. -/
import Derived.Test.YtojlofaafkdhgaaGreatS22
import Derived.Test.YtojlofaafkdhgaaGreatS04
import Derived.Test.YtojlofaafkdhgaaGreatProg
import Derived.KernelRfl
namespace Go.Sak
open Go Go.RowKit Go.Proofs
set_option linter.unusedVariables false
set_option linter.unusedSimpArgs false
set_option maxRecDepth 10000
set_option maxHeartbeats 8000000
def F102 : AFn := ⟨18, (.regT [o1 7 (.mv 0), o1 8 (.mv 0), o1 9 (.nilchk 8), o1 10 (.ld 11 true 9), o1 11 (.ld 1 false 1), o1 12 (.ld 1 false 2), o1 13 (.ld 1 false 3), o1 14 (.call 103 [10, 11, 12, 13]), o1 6 (.mv 14), o1 15 (.ext 6 0), o1 16 (.ext 6 1), o1 17 (.nilchk 7), o2 (.st 11 17 15), o2 (.st 1 4 16)] [(2, 4), (3, 4), (2, 5), (3, 5), (4, 5), (2, 6), (3, 6), (4, 6), (5, 6)]), []⟩
theorem x102 : xf Tryz.prog 102 = some F102 := by kernel_rfl
theorem lf102 : F102.code.lf = true := rfl
def F34 : AFn := ⟨32, (.seq (.reg [o1 5 (.box 33 0), o1 7 (.box 3 2), o1 8 (.box 3 3), o1 9 (.box 3 4), o1 10 (.alloc 33 [(.int .i64 0), (.int .i64 0), (.int .i64 0), (.int .i64 0), (.int .i64 0), (.int .i64 0), (.bool false), (.int .i64 0), (.int .i64 0), (.int .i64 0), .slnil, .slnil, .slnil, (.int .i64 0), .slnil, (.int .i64 0), .slnil, (.int .i64 0), .slnil, .slnil]), o1 11 (.mv (ci 0))]) (.seq (.reg [o1 12 (.alloc 49 [(.int .i64 0)]), o2 (.st 1 12 (ci 20))]) (.seq (.seq (.reg [o1 14 (.ld 20 true 5), o1 15 (.call 32 [14])]) (.cond 15 (.reg [o1 16 (.faddr 0 5), o1 17 (.ld 7 true 16), o1 18 (.mv 1), o1 19 (.ld 1 false 7), o1 20 (.call 99 [17, 18, 19]), o2 (.st 1 12 20)]) .skip)) (.seq (.seq (.reg [o1 21 (.ld 1 false 12), o1 22 (.bin .neq 21 (ci 0))]) (.cond 22 (.seq (.regT [o1 23 (.ld 20 true 5), o1 24 (.call 100 [23]), o1 25 (.ld 1 false 12), o2 (.st 20 10 24), o1 11 (.mv 25)] [(0, 2), (1, 2), (2, 3)]) .ret) .skip)) (.seq (.reg [o1 26 (.ld 20 true 5), o1 27 (.mv 1), o1 28 (.mkfn (.func 102) [] [7, 8, 9, 12]), o1 29 (.call 101 [26, 27, 28]), o1 13 (.alloc 33 [(.int .i64 0), (.int .i64 0), (.int .i64 0), (.int .i64 0), (.int .i64 0), (.int .i64 0), (.bool false), (.int .i64 0), (.int .i64 0), (.int .i64 0), .slnil, .slnil, .slnil, (.int .i64 0), .slnil, (.int .i64 0), .slnil, (.int .i64 0), .slnil, .slnil]), o2 (.st 20 13 29)]) (.seq (.regT [o1 30 (.ld 20 true 13), o1 31 (.ld 1 false 12), o2 (.st 20 10 30), o1 11 (.mv 31)] [(0, 1), (1, 2)]) .ret)))))), [(10, some (20, true)), (11, none)]⟩
theorem x34 : xf Tryz.prog 34 = some F34 := by kernel_rfl
theorem con34 {s_lg s_th : Int} {s_pol s_wt : Int} {s_spin s_yld : Int} {s_single : Bool} {s_h s_t s_m : Int} {s_slots : List Slot} {s_sends s_recvs : List Int} {s_fe : Int} {s_fl : List Int} {s_ee : Int} {s_el : List Int} {s_now : Int} {s_thr : List Thread} {s_log : List Entry} {id kind val untl : Int} (h1 : s_slots.length ≤ 100000000) (h2 : s_sends.length ≤ 100000000) (h3 : s_recvs.length ≤ 100000000) (h4 : s_fl.length ≤ 100000000) (h5 : s_el.length ≤ 100000000) (h6 : s_thr.length ≤ 100000000) (h7 : s_log.length ≤ 100000000) : Con Tryz.prog 34 [.agg [.int .i64 s_lg, .int .i64 s_th, .int .i64 s_pol, .int .i64 s_wt, .int .i64 s_spin, .int .i64 s_yld, .bool s_single, .int .i64 s_h, .int .i64 s_t, .int .i64 s_m, .slv 2 (s_slots.map encS), .slv 1 (s_sends.map encI), .slv 1 (s_recvs.map encI), .int .i64 s_fe, .slv 1 (s_fl.map encI), .int .i64 s_ee, .slv 1 (s_el.map encI), .int .i64 s_now, .slv 11 (s_thr.map encT), .slv 5 (s_log.map encE)], .int .i64 id, .int .i64 kind, .int .i64 val, .int .i64 untl] (.tup [.agg (encZ (fabInvoke (State.mk (Config.mk s_lg s_th s_pol s_wt s_spin s_yld s_single) (Word.mk s_h s_t s_m) s_slots s_sends s_recvs (Event.mk s_fe s_fl) (Event.mk s_ee s_el) s_now s_thr s_log) id kind val untl).1), .int .i64 (fabInvoke (State.mk (Config.mk s_lg s_th s_pol s_wt s_spin s_yld s_single) (Word.mk s_h s_t s_m) s_slots s_sends s_recvs (Event.mk s_fe s_fl) (Event.mk s_ee s_el) s_now s_thr s_log) id kind val untl).2], [], []) := by
  by_cases hchk : fabCheck (State.mk (Config.mk s_lg s_th s_pol s_wt s_spin s_yld s_single) (Word.mk s_h s_t s_m) s_slots s_sends s_recvs (Event.mk s_fe s_fl) (Event.mk s_ee s_el) s_now s_thr s_log) = true
  · by_cases hmay : opMay s_th s_single id kind = 0
    · have hI : fabIs (State.mk (Config.mk s_lg s_th s_pol s_wt s_spin s_yld s_single) (Word.mk s_h s_t s_m) s_slots s_sends s_recvs (Event.mk s_fe s_fl) (Event.mk s_ee s_el) s_now s_thr s_log) id = true := by
        have hl : (s_thr.length : Int) = s_th := by
          have hchk' := hchk
          simp only [fabCheck, Bool.and_eq_true, decide_eq_true_eq] at hchk'
          exact hchk'.1.2
        simp only [fabIs, hchk, Bool.true_and, Bool.and_eq_true, decide_eq_true_eq]
        unfold opMay at hmay
        split at hmay
        · simp at hmay
        · omega
      rw [show fabInvoke (State.mk (Config.mk s_lg s_th s_pol s_wt s_spin s_yld s_single) (Word.mk s_h s_t s_m) s_slots s_sends s_recvs (Event.mk s_fe s_fl) (Event.mk s_ee s_el) s_now s_thr s_log) id kind val untl = (put1 (State.mk (Config.mk s_lg s_th s_pol s_wt s_spin s_yld s_single) (Word.mk s_h s_t s_m) s_slots s_sends s_recvs (Event.mk s_fe s_fl) (Event.mk s_ee s_el) s_now s_thr s_log) id (tInvoke (me (State.mk (Config.mk s_lg s_th s_pol s_wt s_spin s_yld s_single) (Word.mk s_h s_t s_m) s_slots s_sends s_recvs (Event.mk s_fe s_fl) (Event.mk s_ee s_el) s_now s_thr s_log) id) kind val untl).1, (tInvoke (me (State.mk (Config.mk s_lg s_th s_pol s_wt s_spin s_yld s_single) (Word.mk s_h s_t s_m) s_slots s_sends s_recvs (Event.mk s_fe s_fl) (Event.mk s_ee s_el) s_now s_thr s_log) id) kind val untl).2) from by unfold fabInvoke; rw [if_neg (by simp [hchk]), if_neg (by simpa using hmay), if_pos hI]]
      have hI' := hI
      simp only [fabIs, Bool.and_eq_true, decide_eq_true_eq] at hI'
      obtain ⟨⟨_, hge⟩, hlt⟩ := hI'
      have hid : id.toNat < s_thr.length := by omega
      have hne : s_thr ≠ [] := by intro h; subst h; simp at hlt; omega
      clear hI
      refine mcb_of_vc mix x34 (by simp [F34]) fun hw _ => ?_
      clear hw
      repeat' with_reducible first | refine gTn_of (fun h => ?_) (fun h => ?_) | refine gT_of (fun h => ?_) (fun h => ?_) | refine caseTn_of (fun h => ?_) (fun h => ?_) | refine caseT_of (fun h => ?_) (fun h => ?_) | refine FN ?_ ?_ ?_ ?_ rfl ?_ | refine kv_ifn ?_ ?_ | refine kv_if ?_ ?_ | refine k_if ?_ ?_ | refine I2 mix x101 lf101 ?_ ?_ ?_ ?_ ?_ | refine I2 mix x100 lf100 ?_ ?_ ?_ ?_ ?_ | refine I2 mix x102 lf102 ?_ ?_ ?_ ?_ ?_ | refine IA ?_ ?_ ?_ | refine L1 ?_ ?_ | refine L2 ?_ ?_ | refine L3 ?_ ?_ ?_ ?_ | refine L4 ?_ ?_ | refine L5 ?_ ?_ ?_ ?_ ?_ | refine L6 ?_ ?_ ?_ ?_ ?_ | refine P0 (con32 ?_ ?_ ?_ ?_ ?_ ?_ ?_) ?_ ?_ ?_ | refine N1 (con184g hne ?_) ?_ ?_ | refine P0 (con183 ?_) ?_ ?_ ?_ | refine ACV.of (con183 ?_) ?_ ?_ ?_ | refine ACK.of (con183 ?_) ?_ ?_ | refine P0 (con182 ?_) ?_ ?_ ?_ | refine ACV.of (con182 ?_) ?_ ?_ ?_ | refine ACK.of (con182 ?_) ?_ ?_ | refine P0 (con185 ?_) ?_ ?_ ?_ | refine ACV.of (con185 ?_) ?_ ?_ ?_ | refine ACK.of (con185 ?_) ?_ ?_ | refine P0 (con103) ?_ ?_ ?_ | refine ACV.of (con103) ?_ ?_ ?_ | refine ACK.of (con103) ?_ ?_ | refine P0 (con99) ?_ ?_ ?_ | refine ACV.of (con99) ?_ ?_ ?_ | refine ACK.of (con99) ?_ ?_ | simp -implicitDefEqProofs only [F34, qA, ld_0, ld_pv, st_0, splice, doEqs, qU, List.reduceReplicate, Nat.reduceAdd, Nat.reduceSub, Nat.reduceLeDiff, Nat.reduceEqDiff, Nat.reduceMul, reduceIte, reduceCtorEq, qI, Nat.reduceLT, Nat.reduceBEq, F101, F100, F102, up_s, Int.toNat_natCast, encT, hchk, hge, hlt, hmay, encX, set_set, getD_set_same, *]
      all_goals first
        | omega
        | (constructor <;> omega)
        | exact Wk.refl _
        | trace_state
    · rw [show fabInvoke (State.mk (Config.mk s_lg s_th s_pol s_wt s_spin s_yld s_single) (Word.mk s_h s_t s_m) s_slots s_sends s_recvs (Event.mk s_fe s_fl) (Event.mk s_ee s_el) s_now s_thr s_log) id kind val untl = ((State.mk (Config.mk s_lg s_th s_pol s_wt s_spin s_yld s_single) (Word.mk s_h s_t s_m) s_slots s_sends s_recvs (Event.mk s_fe s_fl) (Event.mk s_ee s_el) s_now s_thr s_log), opMay s_th s_single id kind) from by unfold fabInvoke; rw [if_neg (by simp [hchk]), if_pos hmay]]
      refine mcb_of_vc mix x34 (by simp [F34]) fun hw _ => ?_
      clear hw
      repeat' with_reducible first | refine gTn_of (fun h => ?_) (fun h => ?_) | refine gT_of (fun h => ?_) (fun h => ?_) | refine caseTn_of (fun h => ?_) (fun h => ?_) | refine caseT_of (fun h => ?_) (fun h => ?_) | refine FN ?_ ?_ ?_ ?_ rfl ?_ | refine kv_ifn ?_ ?_ | refine kv_if ?_ ?_ | refine k_if ?_ ?_ | refine I2 mix x100 lf100 ?_ ?_ ?_ ?_ ?_ | refine IA ?_ ?_ ?_ | refine L1 ?_ ?_ | refine L2 ?_ ?_ | refine L3 ?_ ?_ ?_ ?_ | refine L4 ?_ ?_ | refine L5 ?_ ?_ ?_ ?_ ?_ | refine L6 ?_ ?_ ?_ ?_ ?_ | refine P0 (con32 ?_ ?_ ?_ ?_ ?_ ?_ ?_) ?_ ?_ ?_ | refine P0 (con183 ?_) ?_ ?_ ?_ | refine ACV.of (con183 ?_) ?_ ?_ ?_ | refine ACK.of (con183 ?_) ?_ ?_ | refine P0 (con182 ?_) ?_ ?_ ?_ | refine ACV.of (con182 ?_) ?_ ?_ ?_ | refine ACK.of (con182 ?_) ?_ ?_ | refine P0 (con185 ?_) ?_ ?_ ?_ | refine ACV.of (con185 ?_) ?_ ?_ ?_ | refine ACK.of (con185 ?_) ?_ ?_ | refine P0 (con184 ?_) ?_ ?_ ?_ | refine ACV.of (con184 ?_) ?_ ?_ ?_ | refine ACK.of (con184 ?_) ?_ ?_ | refine P0 (con99) ?_ ?_ ?_ | refine ACV.of (con99) ?_ ?_ ?_ | refine ACK.of (con99) ?_ ?_ | simp -implicitDefEqProofs only [F34, qA, ld_0, ld_pv, st_0, splice, doEqs, qU, List.reduceReplicate, Nat.reduceAdd, Nat.reduceSub, Nat.reduceLeDiff, Nat.reduceEqDiff, Nat.reduceMul, reduceIte, reduceCtorEq, qI, Nat.reduceLT, Nat.reduceBEq, F100, up_s, Int.toNat_natCast, encT, hmay, *]
      all_goals first
        | omega
        | (constructor <;> omega)
        | exact Wk.refl _
        | trace_state
  · rw [show fabInvoke (State.mk (Config.mk s_lg s_th s_pol s_wt s_spin s_yld s_single) (Word.mk s_h s_t s_m) s_slots s_sends s_recvs (Event.mk s_fe s_fl) (Event.mk s_ee s_el) s_now s_thr s_log) id kind val untl = ((State.mk (Config.mk s_lg s_th s_pol s_wt s_spin s_yld s_single) (Word.mk s_h s_t s_m) s_slots s_sends s_recvs (Event.mk s_fe s_fl) (Event.mk s_ee s_el) s_now s_thr s_log), 20) from by unfold fabInvoke; rw [if_pos hchk]]
    have hmay : True := trivial
    refine mcb_of_vc mix x34 (by simp [F34]) fun hw _ => ?_
    clear hw
    repeat' with_reducible first | refine gTn_of (fun h => ?_) (fun h => ?_) | refine gT_of (fun h => ?_) (fun h => ?_) | refine caseTn_of (fun h => ?_) (fun h => ?_) | refine caseT_of (fun h => ?_) (fun h => ?_) | refine FN ?_ ?_ ?_ ?_ rfl ?_ | refine kv_ifn ?_ ?_ | refine kv_if ?_ ?_ | refine k_if ?_ ?_ | refine I2 mix x100 lf100 ?_ ?_ ?_ ?_ ?_ | refine IA ?_ ?_ ?_ | refine L1 ?_ ?_ | refine L2 ?_ ?_ | refine L3 ?_ ?_ ?_ ?_ | refine L4 ?_ ?_ | refine L5 ?_ ?_ ?_ ?_ ?_ | refine L6 ?_ ?_ ?_ ?_ ?_ | refine P0 (con32 ?_ ?_ ?_ ?_ ?_ ?_ ?_) ?_ ?_ ?_ | refine P0 (con183 ?_) ?_ ?_ ?_ | refine ACV.of (con183 ?_) ?_ ?_ ?_ | refine ACK.of (con183 ?_) ?_ ?_ | refine P0 (con182 ?_) ?_ ?_ ?_ | refine ACV.of (con182 ?_) ?_ ?_ ?_ | refine ACK.of (con182 ?_) ?_ ?_ | refine P0 (con185 ?_) ?_ ?_ ?_ | refine ACV.of (con185 ?_) ?_ ?_ ?_ | refine ACK.of (con185 ?_) ?_ ?_ | refine P0 (con184 ?_) ?_ ?_ ?_ | refine ACV.of (con184 ?_) ?_ ?_ ?_ | refine ACK.of (con184 ?_) ?_ ?_ | refine P0 (con99) ?_ ?_ ?_ | refine ACV.of (con99) ?_ ?_ ?_ | refine ACK.of (con99) ?_ ?_ | simp -implicitDefEqProofs only [F34, qA, ld_0, ld_pv, st_0, splice, doEqs, qU, List.reduceReplicate, Nat.reduceAdd, Nat.reduceSub, Nat.reduceLeDiff, Nat.reduceEqDiff, Nat.reduceMul, reduceIte, reduceCtorEq, qI, Nat.reduceLT, Nat.reduceBEq, F100, up_s, Int.toNat_natCast, encT, hmay, *]
    all_goals first
      | omega
      | (constructor <;> omega)
      | exact Wk.refl _
      | exact absurd h (by decide)
      | trace_state

end Go.Sak
