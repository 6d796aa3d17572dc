/- Part S81 of the proofs about the program: K92. Conditions: none. -/
import Derived.Test.YtojlofaafkdhgaaGreatS78
import Derived.Test.YtojlofaafkdhgaaGreatS04
import Derived.Test.YtojlofaafkdhgaaGreatProg
import Derived.KernelRfl
namespace Go.Sak
open Go Go.RowKit Go.Proofs
set_option linter.unusedVariables false
set_option linter.unusedSimpArgs false
set_option maxRecDepth 10000
set_option maxHeartbeats 8000000
def F18 : AFn := ⟨95, (.seq (.reg [o1 2 (.box 33 0), o1 4 (.mv (.const (.bool false)))]) (.seq (.reg [o1 12 (.call 47 []), o1 5 (.mv 12)]) (.seq (.seq (.reg [o1 13 (.ld 20 true 2), o1 14 (.call 22 [13]), o1 15 (.not 14), o1 16 (.mv 15), o4 17 (.ld 20 true 2) 16, o4 18 (.call 32 [17]) 16, o4 19 (.not 18) 16, o1 20 (.pick 16 (.const (.bool true)) 19)]) (.cond 20 (.seq (.reg [o1 21 (.mv 5), o1 4 (.mv 21)]) .ret) .skip)) (.seq (.reg [o1 23 (.ld 20 true 2), o1 24 (.mv 1), o1 25 (.call 48 [23, 24]), o1 22 (.mv 25), o1 26 (.ext 22 0), o1 27 (.ext 22 1), o1 6 (.alloc 33 [(.int .i64 0), (.int .i64 0), (.int .i64 0), (.int .i64 0), (.int .i64 0), (.int .i64 0), (.bool false), (.int .i64 0), (.int .i64 0), (.int .i64 0), .slnil, .slnil, .slnil, (.int .i64 0), .slnil, (.int .i64 0), .slnil, (.int .i64 0), .slnil, .slnil]), o2 (.st 20 6 26), o1 7 (.mv 27)]) (.seq (.reg [o1 28 (.ld 20 true 2), o1 29 (.call 50 [28]), o1 8 (.mv 29)]) (.seq (.reg [o1 9 (.mv (.const (.bool false)))]) (.seq (.seq (.reg [o1 10 (.mv (ci 0))]) (.block 0 (.loop (.seq (.seq (.reg [o1 30 (.mv 10), o1 31 (.mv 8), o1 32 (.len 31), o1 33 (.bin .lss 30 32)]) (.cond 33 .skip (.exit 0))) (.seq (.block 1 (.reg [o1 36 (.mv 9), o1 37 (.mv 36), o4 38 (.mv 8) 37, o4 39 (.mv 10) 37, o4 40 (.iaddr 1 38 39) 37, o4 41 (.ld 1 false 40) 37, o4 42 (.mv 1) 37, o4 43 (.bin .eql 41 42) 37, o1 44 (.pick 37 (.const (.bool true)) 43), o1 9 (.mv 44)])) (.reg [o1 34 (.mv 10), o1 35 (.bin .add 34 (ci 1)), o1 10 (.mv 35)])))))) (.seq (.seq (.reg [o1 11 (.mv (ci 0))]) (.block 2 (.loop (.seq (.seq (.reg [o1 45 (.mv 11), o1 46 (.faddr 18 2), o1 47 (.ld 1 false 46), o1 48 (.len 47), o1 49 (.bin .lss 45 48), o1 50 (.mv 49), o3 51 (.mv 11) 50, o3 52 (.faddr 18 6) 50, o3 53 (.ld 1 false 52) 50, o3 54 (.len 53) 50, o3 55 (.bin .lss 51 54) 50, o1 56 (.pick 50 55 (.const (.bool false)))]) (.cond 56 .skip (.exit 2))) (.seq (.block 3 (.seq (.regT [o1 59 (.mv 11), o1 60 (.mv 1), o1 61 (.bin .neq 59 60), o1 62 (.mv 61), o3 63 (.faddr 18 2) 62, o3 64 (.ld 1 false 63) 62, o3 65 (.mv 11) 62, o3 66 (.iaddr 11 64 65) 62, o3 67 (.faddr 0 66) 62, o3 68 (.ld 1 false 67) 62, o3 69 (.bin .eql 68 (ci 0)) 62, o3 70 (.faddr 18 6) 62, o3 71 (.ld 1 false 70) 62, o3 72 (.mv 11) 62, o3 73 (.iaddr 11 71 72) 62, o3 74 (.faddr 0 73) 62, o3 75 (.ld 1 false 74) 62, o3 76 (.bin .eql 75 (ci 0)) 62, o3 77 (.eqb true 69 76) 62, o1 78 (.pick 62 77 (.const (.bool false)))] [(4, 11), (5, 11), (7, 11), (8, 11), (9, 11), (4, 12), (5, 12), (7, 12), (8, 12), (9, 12), (4, 14), (5, 14), (7, 14), (8, 14), (9, 14), (4, 15), (5, 15), (7, 15), (8, 15), (9, 15), (4, 16), (5, 16), (7, 16), (8, 16), (9, 16)]) (.cond 78 (.seq (.reg [o1 4 (.mv (.const (.bool false)))]) .ret) .skip))) (.reg [o1 57 (.mv 11), o1 58 (.bin .add 57 (ci 1)), o1 11 (.mv 58)])))))) (.seq (.reg [o1 79 (.mv 5), o1 80 (.mv 79), o3 81 (.mv 9) 80, o3 82 (.mv 7) 80, o3 83 (.bin .eql 82 (ci 0)) 80, o3 84 (.eqb false 81 83) 80, o1 85 (.pick 80 84 (.const (.bool false))), o1 86 (.mv 85), o3 87 (.faddr 18 6) 86, o3 88 (.ld 1 false 87) 86, o3 89 (.len 88) 86, o3 90 (.faddr 18 2) 86, o3 91 (.ld 1 false 90) 86, o3 92 (.len 91) 86, o3 93 (.bin .eql 89 92) 86, o1 94 (.pick 86 93 (.const (.bool false))), o1 4 (.mv 94)]) .ret))))))))), [(4, none)]⟩
theorem x18 : xf Tryz.prog 18 = some F18 := by kernel_rfl
theorem any_take_s {l : List Int} {id : Int} {i : Nat} (h : i < l.length) : (l.take (i + 1)).any (fun x => decide (x = id)) = ((l.take i).any (fun x => decide (x = id)) || decide (l.getD i default = id)) := by
  rw [List.take_succ_eq_append_getElem h, List.any_append]
  simp [List.getD_eq_getElem?_getD, h]
theorem any_id {l : List Int} {id : Int} : l.any (fun x => decide (x = id)) = decide (id ∈ l) := by
  induction l with
  | nil => rfl
  | cons x l ih =>
    simp only [List.any_cons, ih, List.mem_cons]
    by_cases h : x = id
    · subst h; simp
    · have h2 : ¬ id = x := fun e => h e.symm
      simp [h, h2]
theorem con18 {s : State} {id : Int} : Con Tryz.prog 18 [.agg (encZ s), .int .i64 id] (.bool true, [], []) := by
  have hmem := fun h => @pActive_mem s id (fab_iff.1 h)
  have hw2 := pick_wok (s := s) (id := id)
  have hidl := fun j hj => wok_idle hw2 j hj
  have hlen := hw2.1
  have hbp : ∀ k, Bd s k → Bd (pPick s id).1 (k + 1) := fun k h => bd_pPick h
  clear hw2
  obtain ⟨l, hL⟩ : ∃ l, pActive s = l := ⟨_, rfl⟩
  obtain ⟨⟨a, e⟩, hP⟩ : ∃ p, pPick s id = p := ⟨_, rfl⟩
  rw [hP] at hidl hlen hbp
  rw [hL] at hmem
  simp only [hP] at hmem
  simp only [] at hidl hlen hbp
  refine mcb_of_vc mix x18 (by simp [F18]) fun hw _ => ?_
  clear hw
  repeat' with_reducible first | refine gTn_of (fun h => ?_) (fun h => ?_) | refine gT_of (fun h => ?_) (fun h => ?_) | refine caseTn_of (fun h => ?_) (fun h => ?_) | refine caseT_of (fun h => ?_) (fun h => ?_) | refine FN ?_ ?_ ?_ ?_ rfl ?_ | refine kv_ifn ?_ ?_ | refine kv_if ?_ ?_ | refine k_if ?_ ?_ | refine IA ?_ ?_ ?_ | refine L1 ?_ ?_ | refine L2 ?_ ?_ | refine L3 ?_ ?_ ?_ ?_ | refine L4 ?_ ?_ | refine L5 ?_ ?_ ?_ ?_ ?_ | refine L6 ?_ ?_ ?_ ?_ ?_ | refine AC.p0 (con47 ) ?_ (by simp -implicitDefEqProofs only [qU, pure_encZ]; done) ?_ ?_ | refine AC.p0 (con22s ) ?_ (by simp -implicitDefEqProofs only [qU, pure_encZ]; done) ?_ ?_ | refine AC.p0 (con48s ?_) ?_ (by simp -implicitDefEqProofs only [qU, pure_encZ]; done) ?_ ?_ | refine AC.p0 (con32s ?_) ?_ (by simp -implicitDefEqProofs only [qU, pure_encZ]; done) ?_ ?_ | refine AC.p0 (con50s ?_) ?_ (by simp -implicitDefEqProofs only [qU, pure_encZ]; done) ?_ ?_ | refine ia_of (d := default) ?_ ?_ | simp -implicitDefEqProofs only [F18, qA, ld_0, ld_pv, st_0, splice, doEqs, qU, List.reduceReplicate, Nat.reduceAdd, Nat.reduceSub, Nat.reduceLeDiff, Nat.reduceEqDiff, Nat.reduceMul, reduceIte, reduceCtorEq, qI, Nat.reduceLT, Nat.reduceBEq, up_s, Int.toNat_natCast, qZ, nl_s, nl_0, qC, qT, encI, lm_normal, lm_exit, lm_ret, Int.natCast_zero, Int.reduceEq, Int.reduceNe, *]
  all_goals first
    | exact Wk.refl _
    | exact (few_bd (by assumption)).mono (by omega)
    | refine lm_of 8 (fun i : Nat => nl 1 (some (.int .i64 id) :: some (.ptr 2 0 0) :: nl 2 (some (.bool true) :: some (.ptr 3 0 0) :: some (.int .i64 e) :: some (.slv 1 (l.map encI)) :: some (.bool ((l.take i).any (fun x => decide (x = id)))) :: some (.int .i64 i) :: nl 84 []))) (fun i => [(2, .rows 33 20 [encZ s]), (3, .rows 33 20 [encZ a])]) (fun i => i ≤ l.length) (fun i => l.length - i) [] [(1, 2), (289, 3)] 0 (by omega) ?_ ?_ ?_ ?_ ?_ ?_
    | trace_state
  rotate_right
  · have hfw : few s = true := by assumption
    have hck : fabCheck s = true := by assumption
    have hll : l.length ≤ 200 := by
      have h1 := (few_bd hfw).all
      have h2 := actL_len (s := s) s.threads.length
      rw [← hL, show pActive s = actL s s.threads.length from by unfold pActive; rw [if_neg (by simp [hck])]; rfl]
      omega
    have hB : l.any (fun x => decide (x = id)) = decide (e = 0) := by rw [any_id]; exact decide_eq_decide.2 (hmem hck)
    intro i hi
    simp only [all_some, all_none, all_nil, nl_s, nl_0]
    intros
    rcases Nat.lt_or_eq_of_le hi with hlt | heq
    · have hd : ((i : Int) < (l.length : Int)) = True := by simp; omega
      have hS := any_take_s (id := id) hlt
      repeat' with_reducible first | refine gTn_of (fun h => ?_) (fun h => ?_) | refine gT_of (fun h => ?_) (fun h => ?_) | refine caseTn_of (fun h => ?_) (fun h => ?_) | refine caseT_of (fun h => ?_) (fun h => ?_) | refine FN ?_ ?_ ?_ ?_ rfl ?_ | refine kv_ifn ?_ ?_ | refine kv_if ?_ ?_ | refine k_if ?_ ?_ | refine IA ?_ ?_ ?_ | refine L1 ?_ ?_ | refine L2 ?_ ?_ | refine L3 ?_ ?_ ?_ ?_ | refine L4 ?_ ?_ | refine L5 ?_ ?_ ?_ ?_ ?_ | refine L6 ?_ ?_ ?_ ?_ ?_ | refine AC.p0 (con47 ) ?_ (by simp -implicitDefEqProofs only [qU, pure_encZ]; done) ?_ ?_ | refine AC.p0 (con22s ) ?_ (by simp -implicitDefEqProofs only [qU, pure_encZ]; done) ?_ ?_ | refine AC.p0 (con48s ?_) ?_ (by simp -implicitDefEqProofs only [qU, pure_encZ]; done) ?_ ?_ | refine AC.p0 (con32s ?_) ?_ (by simp -implicitDefEqProofs only [qU, pure_encZ]; done) ?_ ?_ | refine AC.p0 (con50s ?_) ?_ (by simp -implicitDefEqProofs only [qU, pure_encZ]; done) ?_ ?_ | refine ia_of (d := default) ?_ ?_ | refine rm_of [] [(2, 2), (3, 3)] (i + 1) ?_ ?_ ?_ ?_ ?_ ?_ | simp -implicitDefEqProofs only [F18, qA, ld_0, ld_pv, st_0, splice, doEqs, qU, List.reduceReplicate, Nat.reduceAdd, Nat.reduceSub, Nat.reduceLeDiff, Nat.reduceEqDiff, Nat.reduceMul, reduceIte, reduceCtorEq, qI, Nat.reduceLT, Nat.reduceBEq, up_s, Int.toNat_natCast, qZ, nl_s, nl_0, qC, qT, encI, lm_normal, lm_exit, lm_ret, Int.natCast_zero, Int.reduceEq, Int.reduceNe, *]
      all_goals first
        | omega
        | exact ⟨by omega, by omega⟩
        | exact wrap64 (by omega) (by omega)
        | (rw [wrap64 (by omega) (by omega)]; omega)
        | (rw [wrap64 (by omega) (by omega)]; simp [*]; done)
        | (simp [*]; done)
        | trace_state
    · have hd : ((i : Int) < (l.length : Int)) = False := by simp; omega
      have hT : l.take i = l := List.take_of_length_le (by omega)
      rw [hT]
      clear heq hT
      repeat' with_reducible first | refine gTn_of (fun h => ?_) (fun h => ?_) | refine gT_of (fun h => ?_) (fun h => ?_) | refine caseTn_of (fun h => ?_) (fun h => ?_) | refine caseT_of (fun h => ?_) (fun h => ?_) | refine FN ?_ ?_ ?_ ?_ rfl ?_ | refine kv_ifn ?_ ?_ | refine kv_if ?_ ?_ | refine k_if ?_ ?_ | refine IA ?_ ?_ ?_ | refine L1 ?_ ?_ | refine L2 ?_ ?_ | refine L3 ?_ ?_ ?_ ?_ | refine L4 ?_ ?_ | refine L5 ?_ ?_ ?_ ?_ ?_ | refine L6 ?_ ?_ ?_ ?_ ?_ | refine AC.p0 (con47 ) ?_ (by simp -implicitDefEqProofs only [qU, pure_encZ]; done) ?_ ?_ | refine AC.p0 (con22s ) ?_ (by simp -implicitDefEqProofs only [qU, pure_encZ]; done) ?_ ?_ | refine AC.p0 (con48s ?_) ?_ (by simp -implicitDefEqProofs only [qU, pure_encZ]; done) ?_ ?_ | refine AC.p0 (con32s ?_) ?_ (by simp -implicitDefEqProofs only [qU, pure_encZ]; done) ?_ ?_ | refine AC.p0 (con50s ?_) ?_ (by simp -implicitDefEqProofs only [qU, pure_encZ]; done) ?_ ?_ | refine ia_of (d := default) ?_ ?_ | simp -implicitDefEqProofs only [F18, qA, ld_0, ld_pv, st_0, splice, doEqs, qU, List.reduceReplicate, Nat.reduceAdd, Nat.reduceSub, Nat.reduceLeDiff, Nat.reduceEqDiff, Nat.reduceMul, reduceIte, reduceCtorEq, qI, Nat.reduceLT, Nat.reduceBEq, up_s, Int.toNat_natCast, qZ, nl_s, nl_0, qC, qT, encI, lm_normal, lm_exit, lm_ret, Int.natCast_zero, Int.reduceEq, Int.reduceNe, *]
      all_goals first
        | refine lm_of 8 (fun j : Nat => nl 1 (some (.int .i64 id) :: some (.ptr 2 0 0) :: nl 2 (some (.bool true) :: some (.ptr 3 0 0) :: some (.int .i64 e) :: nl 1 (some (.bool (decide (e = 0))) :: nl 1 (some (.int .i64 j) :: nl 83 []))))) (fun j => [(2, .rows 33 20 [encZ s]), (3, .rows 33 20 [encZ a])]) (fun j => j ≤ s.threads.length) (fun j => s.threads.length - j) [] [(2, 2), (3, 3)] 0 (by omega) ?_ ?_ ?_ ?_ ?_ ?_
        | trace_state
      rotate_right
      · intro j hj
        simp only [all_some, all_none, all_nil, nl_s, nl_0]
        intros
        have hid := hidl j
        repeat' with_reducible first | refine gTn_of (fun h => ?_) (fun h => ?_) | refine gT_of (fun h => ?_) (fun h => ?_) | refine caseTn_of (fun h => ?_) (fun h => ?_) | refine caseT_of (fun h => ?_) (fun h => ?_) | refine FN ?_ ?_ ?_ ?_ rfl ?_ | refine kv_ifn ?_ ?_ | refine kv_if ?_ ?_ | refine k_if ?_ ?_ | refine IA ?_ ?_ ?_ | refine L1 ?_ ?_ | refine L2 ?_ ?_ | refine L3 ?_ ?_ ?_ ?_ | refine L4 ?_ ?_ | refine L5 ?_ ?_ ?_ ?_ ?_ | refine L6 ?_ ?_ ?_ ?_ ?_ | refine AC.p0 (con47 ) ?_ (by simp -implicitDefEqProofs only [qU, pure_encZ]; done) ?_ ?_ | refine AC.p0 (con22s ) ?_ (by simp -implicitDefEqProofs only [qU, pure_encZ]; done) ?_ ?_ | refine AC.p0 (con48s ?_) ?_ (by simp -implicitDefEqProofs only [qU, pure_encZ]; done) ?_ ?_ | refine AC.p0 (con32s ?_) ?_ (by simp -implicitDefEqProofs only [qU, pure_encZ]; done) ?_ ?_ | refine AC.p0 (con50s ?_) ?_ (by simp -implicitDefEqProofs only [qU, pure_encZ]; done) ?_ ?_ | refine ia_of (d := default) ?_ ?_ | refine rm_of [] [(2, 2), (3, 3)] (j + 1) ?_ ?_ ?_ ?_ ?_ ?_ | simp -implicitDefEqProofs only [F18, qA, ld_0, ld_pv, st_0, splice, doEqs, qU, List.reduceReplicate, Nat.reduceAdd, Nat.reduceSub, Nat.reduceLeDiff, Nat.reduceEqDiff, Nat.reduceMul, reduceIte, reduceCtorEq, qI, Nat.reduceLT, Nat.reduceBEq, up_s, Int.toNat_natCast, qZ, nl_s, nl_0, qC, qT, encI, lm_normal, lm_exit, lm_ret, Int.natCast_zero, Int.reduceEq, Int.reduceNe, *]
        all_goals first
          | exact Wk.refl _
          | (have hjj := of_decide_eq_true (by assumption : decide ((j : Int) < (s.threads.length : Int)) = true)
             have hsl := (few_bd hfw).all
             rw [wrap64 (by omega) (by omega)]; omega)
          | (simp only [decide_eq_true_eq, decide_eq_false_iff_not] at *
             first
             | omega
             | exact ⟨by omega, by omega⟩
             | exact wrap64 (by omega) (by omega)
             | (rw [wrap64 (by omega) (by omega)]; omega)
             | (have hid := hid (by assumption); simp_all; done))
          | trace_state
      all_goals first
        | omega
        | (simp -implicitDefEqProofs only [qA, ld_0, ld_pv, st_0, splice, doEqs, qU, List.reduceReplicate, Nat.reduceAdd, Nat.reduceSub, Nat.reduceLeDiff, Nat.reduceEqDiff, Nat.reduceMul, reduceIte, reduceCtorEq, qI, Nat.reduceLT, Nat.reduceBEq, qZ, nl_s, nl_0]; first | done | (simp; done))
        | trace_state
  all_goals first
    | omega
    | (simp -implicitDefEqProofs only [qA, ld_0, ld_pv, st_0, splice, doEqs, qU, List.reduceReplicate, Nat.reduceAdd, Nat.reduceSub, Nat.reduceLeDiff, Nat.reduceEqDiff, Nat.reduceMul, reduceIte, reduceCtorEq, qI, Nat.reduceLT, Nat.reduceBEq, qZ, nl_s, nl_0]; first | done | (simp; done))
    | trace_state

end Go.Sak
