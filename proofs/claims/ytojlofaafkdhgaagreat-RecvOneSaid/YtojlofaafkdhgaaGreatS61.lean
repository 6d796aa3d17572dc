/- Part S61 of the proofs about the program: K65. Conditions: none. -/
import Derived.Test.YtojlofaafkdhgaaGreatS60
import Derived.Test.YtojlofaafkdhgaaGreatS50
import Derived.Test.YtojlofaafkdhgaaGreatS04
import Derived.Test.YtojlofaafkdhgaaGreatProg
import Derived.KernelRfl
namespace Go.Sak
open Go Go.RowKit Go.Proofs
set_option linter.unusedVariables false
set_option linter.unusedSimpArgs false
set_option maxRecDepth 10000
set_option maxHeartbeats 8000000
def F11 : AFn := ⟨141, (.seq (.reg [o1 2 (.box 33 0), o1 4 (.mv (.const (.bool false)))]) (.seq (.reg [o1 10 (.call 39 []), o1 5 (.mv 10)]) (.seq (.seq (.reg [o1 11 (.ld 20 true 2), o1 12 (.call 22 [11]), o1 13 (.not 12)]) (.cond 13 (.seq (.reg [o1 14 (.mv 5), o1 4 (.mv 14)]) .ret) .skip)) (.seq (.reg [o1 15 (.ld 20 true 2), o1 16 (.mv 1), o1 17 (.call 42 [15, 16]), o1 6 (.alloc 33 [(.int .i64 0), (.int .i64 0), (.int .i64 0), (.int .i64 0), (.int .i64 0), (.int .i64 0), (.bool false), (.int .i64 0), (.int .i64 0), (.int .i64 0), .slnil, .slnil, .slnil, (.int .i64 0), .slnil, (.int .i64 0), .slnil, (.int .i64 0), .slnil, .slnil]), o2 (.st 20 6 17)]) (.seq (.reg [o1 7 (.mv (ci 0))]) (.seq (.seq (.reg [o1 8 (.mv (ci 0))]) (.block 0 (.loop (.seq (.seq (.reg [o1 18 (.mv 8), o1 19 (.faddr 18 2), o1 20 (.ld 1 false 19), o1 21 (.len 20), o1 22 (.bin .lss 18 21), o1 23 (.mv 22), o3 24 (.mv 8) 23, o3 25 (.faddr 18 6) 23, o3 26 (.ld 1 false 25) 23, o3 27 (.len 26) 23, o3 28 (.bin .lss 24 27) 23, o1 29 (.pick 23 28 (.const (.bool false)))]) (.cond 29 .skip (.exit 0))) (.seq (.block 1 (.seq (.seq (.regT [o1 32 (.mv 8), o1 33 (.mv 1), o1 34 (.bin .eql 32 33), o1 35 (.mv 34), o4 36 (.faddr 18 6) 35, o4 37 (.ld 1 false 36) 35, o4 38 (.mv 8) 35, o4 39 (.iaddr 11 37 38) 35, o4 40 (.ld 11 true 39) 35, o4 41 (.faddr 18 2) 35, o4 42 (.ld 1 false 41) 35, o4 43 (.mv 8) 35, o4 44 (.iaddr 11 42 43) 35, o4 45 (.ld 11 true 44) 35, o4 46 (.eqs false [(.int .i64), (.int .i64), (.int .i64), (.int .i64), (.int .i64), (.int .i64), (.int .i64), (.int .i64), .bool, (.int .i64), (.int .i64)] 40 45) 35, o1 47 (.pick 35 (.const (.bool true)) 46)] [(4, 9), (5, 9), (7, 9), (8, 9), (4, 10), (5, 10), (7, 10), (8, 10), (4, 12), (5, 12), (7, 12), (8, 12), (4, 13), (5, 13), (7, 13), (8, 13)]) (.cond 47 (.exit 1) .skip)) (.seq (.reg [o1 48 (.faddr 18 2), o1 49 (.ld 1 false 48), o1 50 (.mv 8), o1 51 (.iaddr 11 49 50), o1 52 (.ld 11 true 51), o1 9 (.alloc 44 [(.int .i64 0), (.int .i64 0), (.int .i64 0), (.int .i64 0), (.int .i64 0), (.int .i64 0), (.int .i64 0), (.int .i64 0), (.bool false), (.int .i64 0), (.int .i64 0)]), o2 (.st 11 9 52)]) (.seq (.reg [o1 53 (.faddr 0 9), o2 (.st 1 53 (ci 1))]) (.seq (.seq (.regT [o1 54 (.faddr 18 2), o1 55 (.ld 1 false 54), o1 56 (.mv 8), o1 57 (.iaddr 11 55 56), o1 58 (.faddr 0 57), o1 59 (.ld 1 false 58), o1 60 (.bin .neq 59 (ci 2)), o1 61 (.mv 60), o4 62 (.faddr 18 6) 61, o4 63 (.ld 1 false 62) 61, o4 64 (.mv 8) 61, o4 65 (.iaddr 11 63 64) 61, o4 66 (.ld 11 true 65) 61, o4 67 (.ld 11 true 9) 61, o4 68 (.eqs true [(.int .i64), (.int .i64), (.int .i64), (.int .i64), (.int .i64), (.int .i64), (.int .i64), (.int .i64), .bool, (.int .i64), (.int .i64)] 66 67) 61, o1 69 (.pick 61 (.const (.bool true)) 68)] [(8, 13), (9, 13), (11, 13), (12, 13)]) (.cond 69 (.seq (.reg [o1 4 (.mv (.const (.bool false)))]) .ret) .skip)) (.reg [o1 70 (.mv 7), o1 71 (.bin .add 70 (ci 1)), o1 7 (.mv 71)])))))) (.reg [o1 30 (.mv 8), o1 31 (.bin .add 30 (ci 1)), o1 8 (.mv 31)])))))) (.seq (.reg [o1 72 (.mv 5), o1 73 (.mv 72), o3 74 (.ld 20 true 2) 73, o3 75 (.ld 20 true 6) 73, o3 76 (.call 30 [74, 75]) 73, o3 77 (.bin .leq 76 (ci 1)) 73, o1 78 (.pick 73 77 (.const (.bool false))), o1 79 (.mv 78), o3 80 (.mv 7) 79, o3 81 (.bin .leq 80 (ci 1)) 79, o1 82 (.pick 79 81 (.const (.bool false))), o1 83 (.mv 82), o3 84 (.faddr 18 6) 83, o3 85 (.ld 1 false 84) 83, o3 86 (.len 85) 83, o3 87 (.faddr 18 2) 83, o3 88 (.ld 1 false 87) 83, o3 89 (.len 88) 83, o3 90 (.bin .eql 86 89) 83, o1 91 (.pick 83 90 (.const (.bool false))), o1 92 (.mv 91), o3 93 (.faddr 19 6) 92, o3 94 (.ld 1 false 93) 92, o3 95 (.len 94) 92, o3 96 (.faddr 19 2) 92, o3 97 (.ld 1 false 96) 92, o3 98 (.len 97) 92, o3 99 (.bin .sub 95 98) 92, o3 100 (.bin .leq 99 (ci 1)) 92, o1 101 (.pick 92 100 (.const (.bool false))), o1 102 (.mv 101), o3 103 (.faddr 19 6) 102, o3 104 (.ld 1 false 103) 102, o3 105 (.len 104) 102, o3 106 (.faddr 19 2) 102, o3 107 (.ld 1 false 106) 102, o3 108 (.len 107) 102, o3 109 (.bin .geq 105 108) 102, o1 110 (.pick 102 109 (.const (.bool false))), o1 111 (.mv 110), o3 112 (.faddr 0 6) 111, o3 113 (.ld 7 true 112) 111, o3 114 (.faddr 0 2) 111, o3 115 (.ld 7 true 114) 111, o3 116 (.eqs false [(.int .i64), (.int .i64), (.int .i64), (.int .i64), (.int .i64), (.int .i64), .bool] 113 115) 111, o1 117 (.pick 111 116 (.const (.bool false))), o1 118 (.mv 117), o3 119 (.faddr 17 6) 118, o3 120 (.ld 1 false 119) 118, o3 121 (.faddr 17 2) 118, o3 122 (.ld 1 false 121) 118, o3 123 (.bin .eql 120 122) 118, o1 124 (.pick 118 123 (.const (.bool false))), o1 125 (.mv 124), o3 126 (.faddr 19 6) 125, o3 127 (.ld 1 false 126) 125, o3 128 (.len 127) 125, o3 129 (.faddr 19 2) 125, o3 130 (.ld 1 false 129) 125, o3 131 (.len 130) 125, o3 132 (.bin .gtr 128 131) 125, o3 133 (.mv 132) 125, o4 134 (.faddr 19 6) 133, o4 135 (.ld 1 false 134) 133, o4 136 (.faddr 19 2) 133, o4 137 (.ld 1 false 136) 133, o4 138 (.call 31 [135, 137]) 133, o3 139 (.pick 133 (.const (.bool true)) 138) 125, o1 140 (.pick 125 139 (.const (.bool false))), o1 4 (.mv (.tmp 140))]) .ret))))))), [(4, none)]⟩
theorem x11 : xf Tryz.prog 11 = some F11 := by kernel_rfl
/-- sakialaw15.RecvOne -/
theorem con11 {s : State} {id : Int} : Con Tryz.prog 11 [.agg (encZ s), .int .i64 id] (.bool true, [], []) := by
  obtain ⟨a, hA⟩ : ∃ a, gStep s id = a := ⟨_, rfl⟩
  have hlg := nf_lg (g_nf (s := s) (id := id))
  have hth := nf_things (g_nf (s := s) (id := id))
  have hTh : Th s (gStep s id) id := (by by_cases h0 : 0 ≤ id; exact nf_th g_nf h0; rw [show gStep s id = s from by (unfold gStep; rw [if_pos]; simp [gIs, fabIs]; omega)]; exact ⟨rfl, 0, fun _ _ => .inl rfl⟩)
  rw [hA] at hlg hth hTh
  obtain ⟨hlen, j, hj⟩ := hTh
  have hcf := hlg.1
  have hnw := hlg.2.1
  have hlo := nf_log hlg
  clear hlg
  refine mcb_of_vc mix x11 (by simp [F11]) fun hw _ => ?_
  clear hw
  repeat' with_reducible first | refine gTn_of (fun h => ?_) (fun h => ?_) | refine gT_of (fun h => ?_) (fun h => ?_) | refine caseTn_of (fun h => ?_) (fun h => ?_) | refine caseT_of (fun h => ?_) (fun h => ?_) | refine FN ?_ ?_ ?_ ?_ rfl ?_ | refine kv_ifn ?_ ?_ | refine kv_if ?_ ?_ | refine k_if ?_ ?_ | refine IA ?_ ?_ ?_ | refine L1 ?_ ?_ | refine L2 ?_ ?_ | refine L3 ?_ ?_ ?_ ?_ | refine L4 ?_ ?_ | refine L5 ?_ ?_ ?_ ?_ ?_ | refine L6 ?_ ?_ ?_ ?_ ?_ | refine AC.p0 (con39 ) ?_ (by simp -implicitDefEqProofs only [qU, pure_encZ]; done) ?_ ?_ | refine AC.p0 (con22s ) ?_ (by simp -implicitDefEqProofs only [qU, pure_encZ]; done) ?_ ?_ | refine AC.p0 (con42s ?_) ?_ (by simp -implicitDefEqProofs only [qU, pure_encZ]; done) ?_ ?_ | refine AC.p0 (con30 ?_ ?_) ?_ (by simp -implicitDefEqProofs only [qU, pure_encZ]; done) ?_ ?_ | refine P0 (con31 ?_) ?_ ?_ ?_ | refine ia_of (d := default) ?_ ?_ | refine rm_of [] [(2, 2), (3, 3)] (i + 1, if (i : Int) = id ∨ a.threads.getD i default = s.threads.getD i default then o else o + 1) ?_ ?_ ?_ ?_ ?_ ?_ | simp -implicitDefEqProofs only [F11, qA, ld_0, ld_pv, st_0, splice, doEqs, qU, List.reduceReplicate, Nat.reduceAdd, Nat.reduceSub, Nat.reduceLeDiff, Nat.reduceEqDiff, Nat.reduceMul, reduceIte, reduceCtorEq, qI, Nat.reduceLT, Nat.reduceBEq, up_s, Int.toNat_natCast, qZ, qC, qT, qK, ceq_T, ceq_C, ceq_E, lm_normal, lm_exit, lm_ret, Int.natCast_zero, hA, *]
  all_goals first
    | refine lm_of 5 (fun t : Nat × Int => [none, some (.int .i64 id), some (.ptr 2 0 0), none, none, some (.bool true), some (.ptr 3 0 0), some (.int .i64 t.2), some (.int .i64 t.1), none, none, none, none, none, none, none, none, none, none, none, none, none, none, none, none, none, none, none, none, none, none, none, none, none, none, none, none, none, none, none, none, none, none, none, none, none, none, none, none, none, none, none, none, none, none, none, none, none, none, none, none, none, none, none, none, none, none, none, none, none, none, none, none, none, none, none, none, none, none, none, none, none, none, none, none, none, none, none, none, none, none, none, none, none, none, none, none, none, none, none, none, none, none, none, none, none, none, none, none, none, none, none, none, none, none, none, none, none, none, none, none, none, none, none, none, none, none, none, none, none, none, none, none, none, none, none, none, none, none, none, none]) (fun t => [(2, .rows 33 20 [encZ s]), (3, .rows 33 20 [encZ a])]) (fun t => t.1 ≤ s.threads.length ∧ (t.2 = 0 ∨ t.2 = 1 ∧ j < t.1)) (fun t => s.threads.length - t.1) [] [(1, 2), (161, 3)] (0, 0) (by omega) ?_ ?_ ?_ ?_ ?_ ?_
    | exact (few_bd (by assumption)).mono (by omega)
    | exact Wk.refl _
    | trace_state
  rotate_right
  · rintro ⟨i, o⟩ ⟨hi, ho⟩
    simp only [] at hi ho
    have hf := few_bd (by assumption)
    have hf1 := hf.all
    have hb : Bd a 1000 := hA ▸ (bd_gStep hf).mono (by omega)
    simp only [all_some, all_none, all_nil]
    intros
    repeat' with_reducible first | refine gTn_of (fun h => ?_) (fun h => ?_) | refine gT_of (fun h => ?_) (fun h => ?_) | refine caseTn_of (fun h => ?_) (fun h => ?_) | refine caseT_of (fun h => ?_) (fun h => ?_) | refine FN ?_ ?_ ?_ ?_ rfl ?_ | refine kv_ifn ?_ ?_ | refine kv_if ?_ ?_ | refine k_if ?_ ?_ | refine IA ?_ ?_ ?_ | refine L1 ?_ ?_ | refine L2 ?_ ?_ | refine L3 ?_ ?_ ?_ ?_ | refine L4 ?_ ?_ | refine L5 ?_ ?_ ?_ ?_ ?_ | refine L6 ?_ ?_ ?_ ?_ ?_ | refine AC.p0 (con39 ) ?_ (by simp -implicitDefEqProofs only [qU, pure_encZ]; done) ?_ ?_ | refine AC.p0 (con22s ) ?_ (by simp -implicitDefEqProofs only [qU, pure_encZ]; done) ?_ ?_ | refine AC.p0 (con42s ?_) ?_ (by simp -implicitDefEqProofs only [qU, pure_encZ]; done) ?_ ?_ | refine AC.p0 (con30 ?_ ?_) ?_ (by simp -implicitDefEqProofs only [qU, pure_encZ]; done) ?_ ?_ | refine P0 (con31 ?_) ?_ ?_ ?_ | refine ia_of (d := default) ?_ ?_ | refine rm_of [] [(2, 2), (3, 3)] (i + 1, if (i : Int) = id ∨ a.threads.getD i default = s.threads.getD i default then o else o + 1) ?_ ?_ ?_ ?_ ?_ ?_ | simp -implicitDefEqProofs only [F11, qA, ld_0, ld_pv, st_0, splice, doEqs, qU, List.reduceReplicate, Nat.reduceAdd, Nat.reduceSub, Nat.reduceLeDiff, Nat.reduceEqDiff, Nat.reduceMul, reduceIte, reduceCtorEq, qI, Nat.reduceLT, Nat.reduceBEq, up_s, Int.toNat_natCast, qZ, qC, qT, qK, ceq_T, ceq_C, ceq_E, lm_normal, lm_exit, lm_ret, Int.natCast_zero, hA, *]
    all_goals first
      | exact hf.mono (by omega)
      | exact hb.mono (by omega)
      | exact Wk.refl _
      | (rcases hlo with ⟨_, e⟩ | e
         · rw [decide_eq_true e]; exact Wk.refl _
         · exfalso
           have e2 := of_decide_eq_false (by assumption : decide ((a.log.length : Int) > (s.log.length : Int)) = false)
           omega)
      | (simp only [decide_eq_true_eq, decide_eq_false_iff_not, Bool.not_eq_true', Bool.not_eq_false', Bool.not_true, Bool.not_false] at *
         first
         | omega
         | (have hji := hj i (by assumption)
            grind [wrap64])
         | grind [wrap64])
      | trace_state
  all_goals first
    | omega
    | (simp -implicitDefEqProofs only [qA, ld_0, ld_pv, st_0, splice, doEqs, qU, List.reduceReplicate, Nat.reduceAdd, Nat.reduceSub, Nat.reduceLeDiff, Nat.reduceEqDiff, Nat.reduceMul, reduceIte, reduceCtorEq, qI, Nat.reduceLT, Nat.reduceBEq, qZ, nl_s, nl_0]; first | done | (simp; done))
    | trace_state

end Go.Sak
