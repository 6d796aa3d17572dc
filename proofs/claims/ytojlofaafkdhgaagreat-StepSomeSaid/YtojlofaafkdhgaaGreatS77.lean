/- Part S77 of the proofs about the program: K87, K88. Conditions: none. -/
import Derived.Test.YtojlofaafkdhgaaGreatS76
import Derived.Test.YtojlofaafkdhgaaGreatS04
import Derived.Test.YtojlofaafkdhgaaGreatProg
import Derived.KernelRfl
namespace Go.Sak
open Go Go.RowKit Go.Proofs
set_option linter.unusedVariables false
set_option linter.unusedSimpArgs false
set_option maxRecDepth 10000
set_option maxHeartbeats 8000000
def F49 : AFn := ⟨34, (.seq (.reg [o1 2 (.box 33 0), o1 4 (.alloc 33 [(.int .i64 0), (.int .i64 0), (.int .i64 0), (.int .i64 0), (.int .i64 0), (.int .i64 0), (.bool false), (.int .i64 0), (.int .i64 0), (.int .i64 0), .slnil, .slnil, .slnil, (.int .i64 0), .slnil, (.int .i64 0), .slnil, (.int .i64 0), .slnil, .slnil]), o1 5 (.mv (ci 0))]) (.seq (.reg [o1 12 (.ld 20 true 2), o1 13 (.call 53 [12, (ci (-1))]), o1 6 (.alloc 33 [(.int .i64 0), (.int .i64 0), (.int .i64 0), (.int .i64 0), (.int .i64 0), (.int .i64 0), (.bool false), (.int .i64 0), (.int .i64 0), (.int .i64 0), .slnil, .slnil, .slnil, (.int .i64 0), .slnil, (.int .i64 0), .slnil, (.int .i64 0), .slnil, .slnil]), o2 (.st 20 6 13), o1 7 (.mv (ci 0))]) (.seq (.seq (.reg [o1 14 (.mv 1), o1 15 (.len 14), o1 16 (.mv (ci 0))]) (.block 0 (.loop (.seq (.reg [o1 17 (.bin .lss 16 15)]) (.seq (.cond 17 .skip (.exit 0)) (.seq (.block 1 (.seq (.reg [o1 18 (.iaddr 1 14 16), o1 19 (.ld 1 false 18), o1 9 (.mv 19)]) (.seq (.reg [o1 21 (.ld 20 true 6), o1 22 (.mv 9), o1 23 (.call 48 [21, 22]), o1 20 (.mv 23), o1 24 (.ext 20 0), o1 25 (.ext 20 1), o1 10 (.alloc 33 [(.int .i64 0), (.int .i64 0), (.int .i64 0), (.int .i64 0), (.int .i64 0), (.int .i64 0), (.bool false), (.int .i64 0), (.int .i64 0), (.int .i64 0), .slnil, .slnil, .slnil, (.int .i64 0), .slnil, (.int .i64 0), .slnil, (.int .i64 0), .slnil, .slnil]), o2 (.st 20 10 24), o1 11 (.mv 25)]) (.seq (.reg [o1 26 (.mv 11), o1 27 (.bin .eql 26 (ci 0))]) (.cond 27 (.reg [o1 28 (.ld 20 true 10), o1 29 (.mv 7), o1 30 (.bin .add 29 (ci 1)), o2 (.st 20 6 28), o1 7 (.mv 30)]) .skip))))) (.reg [o1 31 (.bin .add 16 (ci 1)), o1 16 (.mv 31)]))))))) (.seq (.reg [o1 32 (.ld 20 true 6), o1 33 (.mv 7), o2 (.st 20 4 32), o1 5 (.mv 33)]) .ret)))), [(4, some (20, true)), (5, none)]⟩
theorem x49 : xf Tryz.prog 49 = some F49 := by kernel_rfl
theorem pSome_take {s : State} {l : List Int} {i : Nat} (h : i < l.length) : pSome s (l.take (i + 1)) = pSome1 (pSome s (l.take i)) (l.getD i default) := by
  unfold pSome
  rw [List.take_succ_eq_append_getElem h, List.foldl_append]
  simp [List.getD_eq_getElem?_getD, h]
theorem pSome_y {s : State} {l : List Int} {i : Nat} (h : i < l.length) (e : (pPick (pSome s (l.take i)).1 (l.getD i default)).2 = 0) : pSome s (l.take (i + 1)) = ((pPick (pSome s (l.take i)).1 (l.getD i default)).1, (pSome s (l.take i)).2 + 1) := by
  rw [pSome_take h]; exact if_pos e
theorem pSome_n {s : State} {l : List Int} {i : Nat} (h : i < l.length) (e : ¬ (pPick (pSome s (l.take i)).1 (l.getD i default)).2 = 0) : pSome s (l.take (i + 1)) = pSome s (l.take i) := by
  rw [pSome_take h]; exact if_neg e
theorem con49s {s : State} {l : List Int} (hb : Bd s 10000000) (hl : l.length ≤ 10000000) : Con Tryz.prog 49 [.agg (encZ s), .slv 1 (l.map encI)] (.tup [.agg (encZ (pSome s l).1), .int .i64 (pSome s l).2], [], []) := by
  have hb8 := hb.mono (n := 100000000) (by omega)
  refine mcb_of_vc mix x49 (by simp [F49]) fun hw _ => ?_
  clear hw
  repeat' with_reducible first | refine gTn_of (fun h => ?_) (fun h => ?_) | refine gT_of (fun h => ?_) (fun h => ?_) | refine caseTn_of (fun h => ?_) (fun h => ?_) | refine caseT_of (fun h => ?_) (fun h => ?_) | refine FN ?_ ?_ ?_ ?_ rfl ?_ | refine kv_ifn ?_ ?_ | refine kv_if ?_ ?_ | refine k_if ?_ ?_ | refine IA ?_ ?_ ?_ | refine L1 ?_ ?_ | refine L2 ?_ ?_ | refine L3 ?_ ?_ ?_ ?_ | refine L4 ?_ ?_ | refine L5 ?_ ?_ ?_ ?_ ?_ | refine L6 ?_ ?_ ?_ ?_ ?_ | refine AC.p0 (con53s ?_) ?_ (by simp -implicitDefEqProofs only [qU, pure_encZ]; done) ?_ ?_ | refine AC.p0 (con48s ?_) ?_ (by simp -implicitDefEqProofs only [qU, pure_encZ]; done) ?_ ?_ | refine ia_of (d := default) ?_ ?_ | simp -implicitDefEqProofs only [F49, qA, ld_0, ld_pv, st_0, splice, doEqs, qU, List.reduceReplicate, Nat.reduceAdd, Nat.reduceSub, Nat.reduceLeDiff, Nat.reduceEqDiff, Nat.reduceMul, reduceIte, reduceCtorEq, qI, Nat.reduceLT, Nat.reduceBEq, up_s, Int.toNat_natCast, qZ, nl_s, nl_0, encI, lm_normal, lm_exit, lm_ret, Int.natCast_zero, Int.reduceEq, Int.reduceNe, wake_m1, *]
  all_goals first
    | exact hb8
    | refine lm_of 8 (fun i : Nat => nl 4 (some (.ptr 2 0 0) :: nl 1 (some (.ptr 3 0 0) :: some (.int .i64 (pSome s (l.take i)).2) :: nl 6 (some (.slv 1 (l.map encI)) :: some (.int .i64 l.length) :: some (.int .i64 i) :: nl 17 [])))) (fun i => [(2, .rows 33 20 [[(.int .i64 0), (.int .i64 0), (.int .i64 0), (.int .i64 0), (.int .i64 0), (.int .i64 0), (.bool false), (.int .i64 0), (.int .i64 0), (.int .i64 0), .slnil, .slnil, .slnil, (.int .i64 0), .slnil, (.int .i64 0), .slnil, (.int .i64 0), .slnil, .slnil]]), (3, .rows 33 20 [encZ (pSome s (l.take i)).1])]) (fun i => i ≤ l.length) (fun i => l.length - i) [] [(17, 2), (81, 3)] 0 (by omega) ?_ ?_ ?_ ?_ ?_ ?_
    | omega
    | trace_state
  rotate_right
  · intro i hi
    have hlt' : (l.take i).length ≤ i := by simp; omega
    have hb8 : Bd (pSome s (l.take i)).1 100000000 := (bd_pSome (l.take i) hb).mono (by omega)
    have hn := pSome_in (l.take i) s
    simp only [all_some, all_none, all_nil, nl_s, nl_0]
    intros
    rcases Nat.lt_or_eq_of_le hi with hlt | heq
    · have hd : ((i : Int) < (l.length : Int)) = True := by simp; omega
      by_cases he : (pPick (pSome s (l.take i)).1 (l.getD i default)).2 = 0
      · have hS := pSome_y hlt he
        repeat' with_reducible first | refine gTn_of (fun h => ?_) (fun h => ?_) | refine gT_of (fun h => ?_) (fun h => ?_) | refine caseTn_of (fun h => ?_) (fun h => ?_) | refine caseT_of (fun h => ?_) (fun h => ?_) | refine FN ?_ ?_ ?_ ?_ rfl ?_ | refine kv_ifn ?_ ?_ | refine kv_if ?_ ?_ | refine k_if ?_ ?_ | refine IA ?_ ?_ ?_ | refine L1 ?_ ?_ | refine L2 ?_ ?_ | refine L3 ?_ ?_ ?_ ?_ | refine L4 ?_ ?_ | refine L5 ?_ ?_ ?_ ?_ ?_ | refine L6 ?_ ?_ ?_ ?_ ?_ | refine AC.p0 (con53s ?_) ?_ (by simp -implicitDefEqProofs only [qU, pure_encZ]; done) ?_ ?_ | refine AC.p0 (con48s ?_) ?_ (by simp -implicitDefEqProofs only [qU, pure_encZ]; done) ?_ ?_ | refine ia_of (d := default) ?_ ?_ | refine rm_of [] [(2, 2), (3, 3)] (i + 1) ?_ ?_ ?_ ?_ ?_ ?_ | simp -implicitDefEqProofs only [F49, qA, ld_0, ld_pv, st_0, splice, doEqs, qU, List.reduceReplicate, Nat.reduceAdd, Nat.reduceSub, Nat.reduceLeDiff, Nat.reduceEqDiff, Nat.reduceMul, reduceIte, reduceCtorEq, qI, Nat.reduceLT, Nat.reduceBEq, up_s, Int.toNat_natCast, qZ, nl_s, nl_0, encI, lm_normal, lm_exit, lm_ret, Int.natCast_zero, Int.reduceEq, Int.reduceNe, wake_m1, *]
        all_goals first
          | omega
          | exact hb8
          | exact ⟨by omega, by omega⟩
          | exact wrap64 (by omega) (by omega)
          | (rw [wrap64 (by omega) (by omega)]; first | omega | (simp; done))
          | exact ⟨wrap64 (by omega) (by omega), by rw [wrap64 (by omega) (by omega)]; omega⟩
          | exact ⟨trivial, by rw [wrap64 (by omega) (by omega)]; omega⟩
          | trace_state
      · have hS := pSome_n hlt he
        repeat' with_reducible first | refine gTn_of (fun h => ?_) (fun h => ?_) | refine gT_of (fun h => ?_) (fun h => ?_) | refine caseTn_of (fun h => ?_) (fun h => ?_) | refine caseT_of (fun h => ?_) (fun h => ?_) | refine FN ?_ ?_ ?_ ?_ rfl ?_ | refine kv_ifn ?_ ?_ | refine kv_if ?_ ?_ | refine k_if ?_ ?_ | refine IA ?_ ?_ ?_ | refine L1 ?_ ?_ | refine L2 ?_ ?_ | refine L3 ?_ ?_ ?_ ?_ | refine L4 ?_ ?_ | refine L5 ?_ ?_ ?_ ?_ ?_ | refine L6 ?_ ?_ ?_ ?_ ?_ | refine AC.p0 (con53s ?_) ?_ (by simp -implicitDefEqProofs only [qU, pure_encZ]; done) ?_ ?_ | refine AC.p0 (con48s ?_) ?_ (by simp -implicitDefEqProofs only [qU, pure_encZ]; done) ?_ ?_ | refine ia_of (d := default) ?_ ?_ | refine rm_of [] [(2, 2), (3, 3)] (i + 1) ?_ ?_ ?_ ?_ ?_ ?_ | simp -implicitDefEqProofs only [F49, qA, ld_0, ld_pv, st_0, splice, doEqs, qU, List.reduceReplicate, Nat.reduceAdd, Nat.reduceSub, Nat.reduceLeDiff, Nat.reduceEqDiff, Nat.reduceMul, reduceIte, reduceCtorEq, qI, Nat.reduceLT, Nat.reduceBEq, up_s, Int.toNat_natCast, qZ, nl_s, nl_0, encI, lm_normal, lm_exit, lm_ret, Int.natCast_zero, Int.reduceEq, Int.reduceNe, wake_m1, *]
        all_goals first
          | omega
          | exact hb8
          | exact ⟨by omega, by omega⟩
          | exact wrap64 (by omega) (by omega)
          | (rw [wrap64 (by omega) (by omega)]; first | omega | (simp; done))
          | exact ⟨wrap64 (by omega) (by omega), by rw [wrap64 (by omega) (by omega)]; omega⟩
          | exact ⟨trivial, by rw [wrap64 (by omega) (by omega)]; omega⟩
          | trace_state
    · have hd : ((i : Int) < (l.length : Int)) = False := by simp; omega
      have hT : l.take i = l := List.take_of_length_le (by omega)
      rw [hT]
      clear heq hT
      repeat' with_reducible first | refine gTn_of (fun h => ?_) (fun h => ?_) | refine gT_of (fun h => ?_) (fun h => ?_) | refine caseTn_of (fun h => ?_) (fun h => ?_) | refine caseT_of (fun h => ?_) (fun h => ?_) | refine FN ?_ ?_ ?_ ?_ rfl ?_ | refine kv_ifn ?_ ?_ | refine kv_if ?_ ?_ | refine k_if ?_ ?_ | refine IA ?_ ?_ ?_ | refine L1 ?_ ?_ | refine L2 ?_ ?_ | refine L3 ?_ ?_ ?_ ?_ | refine L4 ?_ ?_ | refine L5 ?_ ?_ ?_ ?_ ?_ | refine L6 ?_ ?_ ?_ ?_ ?_ | refine AC.p0 (con53s ?_) ?_ (by simp -implicitDefEqProofs only [qU, pure_encZ]; done) ?_ ?_ | refine AC.p0 (con48s ?_) ?_ (by simp -implicitDefEqProofs only [qU, pure_encZ]; done) ?_ ?_ | refine ia_of (d := default) ?_ ?_ | simp -implicitDefEqProofs only [F49, qA, ld_0, ld_pv, st_0, splice, doEqs, qU, List.reduceReplicate, Nat.reduceAdd, Nat.reduceSub, Nat.reduceLeDiff, Nat.reduceEqDiff, Nat.reduceMul, reduceIte, reduceCtorEq, qI, Nat.reduceLT, Nat.reduceBEq, up_s, Int.toNat_natCast, qZ, nl_s, nl_0, encI, lm_normal, lm_exit, lm_ret, Int.natCast_zero, Int.reduceEq, Int.reduceNe, wake_m1, *]
      all_goals first
        | exact Wk.refl _
        | trace_state
  all_goals first
    | omega
    | (rw [show pSome s (l.take 0) = (s, 0) from rfl]
       (simp -implicitDefEqProofs only [qA, ld_0, ld_pv, st_0, splice, doEqs, qU, List.reduceReplicate, Nat.reduceAdd, Nat.reduceSub, Nat.reduceLeDiff, Nat.reduceEqDiff, Nat.reduceMul, reduceIte, reduceCtorEq, qI, Nat.reduceLT, Nat.reduceBEq, qZ, nl_s, nl_0]; first | done | (simp; done)))
    | (simp only [show pSome s (l.take 0) = (s, 0) from rfl]
       (simp -implicitDefEqProofs only [qA, ld_0, ld_pv, st_0, splice, doEqs, qU, List.reduceReplicate, Nat.reduceAdd, Nat.reduceSub, Nat.reduceLeDiff, Nat.reduceEqDiff, Nat.reduceMul, reduceIte, reduceCtorEq, qI, Nat.reduceLT, Nat.reduceBEq, qZ, nl_s, nl_0]; first | done | (simp; done)))
    | (simp -implicitDefEqProofs only [qA, ld_0, ld_pv, st_0, splice, doEqs, qU, List.reduceReplicate, Nat.reduceAdd, Nat.reduceSub, Nat.reduceLeDiff, Nat.reduceEqDiff, Nat.reduceMul, reduceIte, reduceCtorEq, qI, Nat.reduceLT, Nat.reduceBEq, qZ, nl_s, nl_0]; first | done | (simp; done))
    | trace_state

end Go.Sak
namespace Go.Sak
open Go Go.RowKit Go.Proofs
set_option linter.unusedVariables false
set_option linter.unusedSimpArgs false
set_option maxRecDepth 10000
set_option maxHeartbeats 8000000
def F51 : AFn := ⟨44, (.seq (.reg [o1 2 (.box 33 0), o1 4 (.alloc 33 [(.int .i64 0), (.int .i64 0), (.int .i64 0), (.int .i64 0), (.int .i64 0), (.int .i64 0), (.bool false), (.int .i64 0), (.int .i64 0), (.int .i64 0), .slnil, .slnil, .slnil, (.int .i64 0), .slnil, (.int .i64 0), .slnil, (.int .i64 0), .slnil, .slnil]), o1 5 (.mv (ci 0))]) (.seq (.reg [o1 10 (.ld 20 true 2), o1 11 (.call 53 [10, (ci (-1))]), o1 6 (.alloc 33 [(.int .i64 0), (.int .i64 0), (.int .i64 0), (.int .i64 0), (.int .i64 0), (.int .i64 0), (.bool false), (.int .i64 0), (.int .i64 0), (.int .i64 0), .slnil, .slnil, .slnil, (.int .i64 0), .slnil, (.int .i64 0), .slnil, (.int .i64 0), .slnil, .slnil]), o2 (.st 20 6 11)]) (.seq (.reg [o1 7 (.mv (.const .slnil))]) (.seq (.seq (.reg [o1 12 (.faddr 18 2), o1 13 (.ld 1 false 12), o1 14 (.len 13), o1 15 (.mv (ci 0))]) (.block 0 (.loop (.seq (.reg [o1 16 (.bin .lss 15 14)]) (.seq (.cond 16 .skip (.exit 0)) (.seq (.block 1 (.seq (.reg [o1 17 (.mv 15), o1 8 (.mv 17)]) (.reg [o1 18 (.mv 7), o1 19 (.mv 8), o1 20 (.bslice 3 1 1 [19]), o1 21 (.app 3 1 8 18 20), o1 7 (.mv 21)]))) (.reg [o1 22 (.bin .add 15 (ci 1)), o1 15 (.mv 22)]))))))) (.seq (.seq (.reg [o1 23 (.mv 1), o1 24 (.mx 23 (ci 0)), o1 25 (.mn 24 (ci 200)), o1 26 (.mv (ci 0))]) (.block 2 (.loop (.seq (.reg [o1 27 (.bin .lss 26 25)]) (.seq (.cond 27 .skip (.exit 2)) (.seq (.block 3 (.seq (.reg [o1 28 (.mv 26), o1 9 (.mv 28)]) (.seq (.seq (.reg [o1 29 (.ld 20 true 6), o1 30 (.call 122 [29])]) (.cond 30 (.seq (.reg [o1 31 (.ld 20 true 6), o1 32 (.mv 9), o2 (.st 20 4 31), o1 5 (.mv 32)]) .ret) .skip)) (.reg [o1 34 (.ld 20 true 6), o1 35 (.mv 7), o1 36 (.call 49 [34, 35]), o1 33 (.mv 36), o1 37 (.ext 33 0), o1 38 (.ext 33 1), o2 (.st 20 6 37)])))) (.reg [o1 39 (.bin .add 26 (ci 1)), o1 26 (.mv 39)]))))))) (.seq (.reg [o1 40 (.ld 20 true 6), o1 41 (.mv 1), o1 42 (.mx 41 (ci 0)), o1 43 (.mn 42 (ci 200)), o2 (.st 20 4 40), o1 5 (.mv 43)]) .ret)))))), [(4, some (20, true)), (5, none)]⟩
theorem x51 : xf Tryz.prog 51 = some F51 := by kernel_rfl
theorem pall_s {n : Nat} : (List.range (n + 1)).map (fun (i : Nat) => (i : Int)) = (List.range n).map (fun (i : Nat) => (i : Int)) ++ [(n : Int)] := by simp [List.range_succ]
def lst (n : Nat) : List Int := (List.range n).map fun (i : Nat) => (i : Int)
theorem lst_s (n : Nat) : lst (n + 1) = lst n ++ [(n : Int)] := pall_s
theorem lst_len (n : Nat) : (lst n).length = n := by simp [lst]
theorem pRound_next {l : List Int} {N k : Nat} {s : State} (h : pQuiet s = false) (hk : k < N) : pRound l (N - k) s = ((pRound l (N - (k + 1)) (pSome s l).1).1, (pRound l (N - (k + 1)) (pSome s l).1).2 + 1) := by
  rw [show N - k = (N - (k + 1)) + 1 from by omega]
  exact nRun_s (is := fun s => !pQuiet s) (by simp [h])
theorem pRound_end {l : List Int} {N k : Nat} {s : State} (h : N ≤ k ∨ pQuiet s = true) : pRound l (N - k) s = (s, 0) := by
  rcases h with h | h
  · rw [show N - k = 0 from by omega]; rfl
  · exact nRun_0 (is := fun s => !pQuiet s) (by simp [h])
theorem quiet_none {s : State} (h : s.threads.length = 0) : pQuiet s = true := by
  unfold pQuiet pActive
  split
  · rfl
  · rw [h]; rfl
theorem r_wk {s st : State} {m : Int} {k N : Nat} (hN : N = (min (max m 0) 200).toNat) (h : pRound (pAll s) N s = ((pRound (pAll s) (N - k) st).1, (pRound (pAll s) (N - k) st).2 + k)) (he : N ≤ k ∨ pQuiet st = true) {x : Int} (hx : x = k) : Wk (.tup [.agg (encZ st), .int .i64 x]) (.tup [.agg (encZ (pRounds s m).1), .int .i64 (pRounds s m).2]) := by
  rw [pRound_end he] at h
  unfold pRounds
  rw [← hN, h, hx]
  simp only [Nat.zero_add]
  exact Wk.refl _
theorem con51s {s : State} {m : Int} (hb : Bd s 10000) : Con Tryz.prog 51 [.agg (encZ s), .int .i64 m] (.tup [.agg (encZ (pRounds s m).1), .int .i64 (pRounds s m).2], [], []) := by
  have hb8 := hb.mono (n := 100000000) (by omega)
  have hl : s.threads.length ≤ 10000 := by have := hb.all; omega
  obtain ⟨N, hNe⟩ : ∃ N : Nat, (min (max m 0) 200).toNat = N := ⟨_, rfl⟩
  have hN : (if 200 < (if m < 0 then 0 else m) then (200 : Int) else (if m < 0 then 0 else m)) = (N : Int) := by split <;> (split at * <;> omega)
  have hN' : N ≤ 200 := by omega
  refine mcb_of_vc mix x51 (by simp [F51]) fun hw _ => ?_
  clear hw
  repeat' with_reducible first | refine gTn_of (fun h => ?_) (fun h => ?_) | refine gT_of (fun h => ?_) (fun h => ?_) | refine caseTn_of (fun h => ?_) (fun h => ?_) | refine caseT_of (fun h => ?_) (fun h => ?_) | refine FN ?_ ?_ ?_ ?_ rfl ?_ | refine kv_ifn ?_ ?_ | refine kv_if ?_ ?_ | refine k_if ?_ ?_ | refine IA ?_ ?_ ?_ | refine L1 ?_ ?_ | refine L2 ?_ ?_ | refine L3 ?_ ?_ ?_ ?_ | refine L4 ?_ ?_ | refine L5 ?_ ?_ ?_ ?_ ?_ | refine L6 ?_ ?_ ?_ ?_ ?_ | refine AC.p0 (con53s ?_) ?_ (by simp -implicitDefEqProofs only [qU, pure_encZ]; done) ?_ ?_ | refine AC.p0 (con122s ?_) ?_ (by simp -implicitDefEqProofs only [qU, pure_encZ]; done) ?_ ?_ | refine AC.p0 (con49s ?_ ?_) ?_ (by simp -implicitDefEqProofs only [qU, pure_encZ]; done) ?_ ?_ | simp -implicitDefEqProofs only [F51, qA, ld_0, ld_pv, st_0, splice, doEqs, qU, List.reduceReplicate, Nat.reduceAdd, Nat.reduceSub, Nat.reduceLeDiff, Nat.reduceEqDiff, Nat.reduceMul, reduceIte, reduceCtorEq, qI, Nat.reduceLT, Nat.reduceBEq, up_s, Int.toNat_natCast, qZ, nl_s, nl_0, qC, encI, lm_normal, lm_exit, lm_ret, Int.natCast_zero, Int.reduceEq, Int.reduceNe, wake_m1, doBslice, trss_append, lst_len, *]
  all_goals first
    | exact hb8
    | refine lm_of 8 (fun i : Nat => nl 1 (some (.int .i64 m) :: nl 2 (some (.ptr 2 0 0) :: nl 1 (some (.ptr 3 0 0) :: some (if i = 0 then .slnil else .slm 4 i) :: nl 6 (some (.int .i64 s.threads.length) :: some (.int .i64 i) :: nl 28 []))))) (fun i => [(2, .rows 33 20 [[(.int .i64 0), (.int .i64 0), (.int .i64 0), (.int .i64 0), (.int .i64 0), (.int .i64 0), (.bool false), (.int .i64 0), (.int .i64 0), (.int .i64 0), .slnil, .slnil, .slnil, (.int .i64 0), .slnil, (.int .i64 0), .slnil, (.int .i64 0), .slnil, .slnil]]), (3, .rows 33 20 [encZ s])] ++ (if i = 0 then [] else [(4, .rows 3 1 ((lst i).map encI))])) (fun i => i ≤ s.threads.length) (fun i => s.threads.length - i) [] [(17, 2), (81, 3)] 0 (by omega) ?_ ?_ ?_ ?_ ?_ ?_
    | omega
    | trace_state
  rotate_right
  · intro i hi
    simp only [all_some, all_none, all_nil, nl_s, nl_0]
    intros
    rcases Nat.lt_or_eq_of_le hi with hlt | heq
    · have hd : ((i : Int) < (s.threads.length : Int)) = True := by simp; omega
      have hS := lst_s i
      by_cases h0 : i = 0
      · subst h0
        have hd : ((0 : Int) < (s.threads.length : Int)) = True := by simp; omega
        simp -implicitDefEqProofs only [if_true, List.append_nil]
        repeat' with_reducible first | refine gTn_of (fun h => ?_) (fun h => ?_) | refine gT_of (fun h => ?_) (fun h => ?_) | refine caseTn_of (fun h => ?_) (fun h => ?_) | refine caseT_of (fun h => ?_) (fun h => ?_) | refine FN ?_ ?_ ?_ ?_ rfl ?_ | refine kv_ifn ?_ ?_ | refine kv_if ?_ ?_ | refine k_if ?_ ?_ | refine IA ?_ ?_ ?_ | refine L1 ?_ ?_ | refine L2 ?_ ?_ | refine L3 ?_ ?_ ?_ ?_ | refine L4 ?_ ?_ | refine L5 ?_ ?_ ?_ ?_ ?_ | refine L6 ?_ ?_ ?_ ?_ ?_ | refine AC.p0 (con53s ?_) ?_ (by simp -implicitDefEqProofs only [qU, pure_encZ]; done) ?_ ?_ | refine AC.p0 (con122s ?_) ?_ (by simp -implicitDefEqProofs only [qU, pure_encZ]; done) ?_ ?_ | refine AC.p0 (con49s ?_ ?_) ?_ (by simp -implicitDefEqProofs only [qU, pure_encZ]; done) ?_ ?_ | refine ap_nil (rw_slm _ _ _ _ _ _ (by simp -implicitDefEqProofs only [m_get, Nat.reduceEqDiff, reduceIte, if_true, if_false]; first | done | exact rfl) ?_) ?_ ?_ ?_ ?_ | refine ap_of (rw_slm _ _ _ _ _ _ (by simp -implicitDefEqProofs only [m_get, Nat.reduceEqDiff, reduceIte, if_true, if_false]; first | done | exact rfl) ?_) (by simp -implicitDefEqProofs only [m_get, Nat.reduceEqDiff, reduceIte, if_true, if_false]; first | done | exact rfl) ?_ ?_ ?_ ?_ | refine rm_of [] [(2, 2), (3, 3), (104, 4)] 1 ?_ ?_ ?_ ?_ ?_ ?_ | simp -implicitDefEqProofs only [F51, qA, ld_0, ld_pv, st_0, splice, doEqs, qU, List.reduceReplicate, Nat.reduceAdd, Nat.reduceSub, Nat.reduceLeDiff, Nat.reduceEqDiff, Nat.reduceMul, reduceIte, reduceCtorEq, qI, Nat.reduceLT, Nat.reduceBEq, up_s, Int.toNat_natCast, qZ, nl_s, nl_0, qC, encI, lm_normal, lm_exit, lm_ret, Int.natCast_zero, Int.reduceEq, Int.reduceNe, wake_m1, doBslice, trss_append, lst_len, *]
        all_goals first
          | omega
          | (constructor <;> omega)
          | exact ⟨rfl, wrap64 (by omega) (by omega)⟩
          | exact wrap64 (by omega) (by omega)
          | (rw [wrap64 (by omega) (by omega)]; omega)
          | exact ⟨trivial, by rw [wrap64 (by omega) (by omega)]; omega⟩
          | (rw [List.map_append]; rfl)
          | (simp [encI, lst]; done)
          | trace_state
      · simp -implicitDefEqProofs only [if_neg h0, List.cons_append, List.nil_append]
        repeat' with_reducible first | refine gTn_of (fun h => ?_) (fun h => ?_) | refine gT_of (fun h => ?_) (fun h => ?_) | refine caseTn_of (fun h => ?_) (fun h => ?_) | refine caseT_of (fun h => ?_) (fun h => ?_) | refine FN ?_ ?_ ?_ ?_ rfl ?_ | refine kv_ifn ?_ ?_ | refine kv_if ?_ ?_ | refine k_if ?_ ?_ | refine IA ?_ ?_ ?_ | refine L1 ?_ ?_ | refine L2 ?_ ?_ | refine L3 ?_ ?_ ?_ ?_ | refine L4 ?_ ?_ | refine L5 ?_ ?_ ?_ ?_ ?_ | refine L6 ?_ ?_ ?_ ?_ ?_ | refine AC.p0 (con53s ?_) ?_ (by simp -implicitDefEqProofs only [qU, pure_encZ]; done) ?_ ?_ | refine AC.p0 (con122s ?_) ?_ (by simp -implicitDefEqProofs only [qU, pure_encZ]; done) ?_ ?_ | refine AC.p0 (con49s ?_ ?_) ?_ (by simp -implicitDefEqProofs only [qU, pure_encZ]; done) ?_ ?_ | refine ap_nil (rw_slm _ _ _ _ _ _ (by simp -implicitDefEqProofs only [m_get, Nat.reduceEqDiff, reduceIte, if_true, if_false]; first | done | exact rfl) ?_) ?_ ?_ ?_ ?_ | refine ap_of (rw_slm _ _ _ _ _ _ (by simp -implicitDefEqProofs only [m_get, Nat.reduceEqDiff, reduceIte, if_true, if_false]; first | done | exact rfl) ?_) (by simp -implicitDefEqProofs only [m_get, Nat.reduceEqDiff, reduceIte, if_true, if_false]; first | done | exact rfl) ?_ ?_ ?_ ?_ | refine rm_of [] [(2, 2), (3, 3), (104, 4)] (i + 1) ?_ ?_ ?_ ?_ ?_ ?_ | simp -implicitDefEqProofs only [F51, qA, ld_0, ld_pv, st_0, splice, doEqs, qU, List.reduceReplicate, Nat.reduceAdd, Nat.reduceSub, Nat.reduceLeDiff, Nat.reduceEqDiff, Nat.reduceMul, reduceIte, reduceCtorEq, qI, Nat.reduceLT, Nat.reduceBEq, up_s, Int.toNat_natCast, qZ, nl_s, nl_0, qC, encI, lm_normal, lm_exit, lm_ret, Int.natCast_zero, Int.reduceEq, Int.reduceNe, wake_m1, doBslice, trss_append, lst_len, *]
        all_goals first
          | omega
          | (constructor <;> omega)
          | exact ⟨rfl, wrap64 (by omega) (by omega)⟩
          | exact wrap64 (by omega) (by omega)
          | (rw [wrap64 (by omega) (by omega)]; omega)
          | exact ⟨trivial, by rw [wrap64 (by omega) (by omega)]; omega⟩
          | (rw [List.map_append]; rfl)
          | (simp [encI, lst]; done)
          | trace_state
    · subst heq
      clear hi
      by_cases h0 : s.threads.length = 0
      · have hd : ((s.threads.length : Int) < (s.threads.length : Int)) = False := by simp
        simp -implicitDefEqProofs only [if_pos h0, List.append_nil]
        have hq := quiet_none h0
        clear h0
        repeat' with_reducible first | refine gTn_of (fun h => ?_) (fun h => ?_) | refine gT_of (fun h => ?_) (fun h => ?_) | refine caseTn_of (fun h => ?_) (fun h => ?_) | refine caseT_of (fun h => ?_) (fun h => ?_) | refine FN ?_ ?_ ?_ ?_ rfl ?_ | refine kv_ifn ?_ ?_ | refine kv_if ?_ ?_ | refine k_if ?_ ?_ | refine IA ?_ ?_ ?_ | refine L1 ?_ ?_ | refine L2 ?_ ?_ | refine L3 ?_ ?_ ?_ ?_ | refine L4 ?_ ?_ | refine L5 ?_ ?_ ?_ ?_ ?_ | refine L6 ?_ ?_ ?_ ?_ ?_ | refine AC.p0 (con53s ?_) ?_ (by simp -implicitDefEqProofs only [qU, pure_encZ]; done) ?_ ?_ | refine AC.p0 (con122s ?_) ?_ (by simp -implicitDefEqProofs only [qU, pure_encZ]; done) ?_ ?_ | refine AC.p0 (con49s ?_ ?_) ?_ (by simp -implicitDefEqProofs only [qU, pure_encZ]; done) ?_ ?_ | refine lp_unroll 1 ?_ ?_ | refine And.intro (Nat.le_of_ble_eq_true rfl) ?_ | simp -implicitDefEqProofs only [F51, qA, ld_0, ld_pv, st_0, splice, doEqs, qU, List.reduceReplicate, Nat.reduceAdd, Nat.reduceSub, Nat.reduceLeDiff, Nat.reduceEqDiff, Nat.reduceMul, reduceIte, reduceCtorEq, qI, Nat.reduceLT, Nat.reduceBEq, up_s, Int.toNat_natCast, qZ, nl_s, nl_0, qC, encI, lm_normal, lm_exit, lm_ret, Int.natCast_zero, Int.reduceEq, Int.reduceNe, wake_m1, doBslice, trss_append, lst_len, *]
        all_goals first
          | exact hb.mono (by omega)
          | exact r_wk (st := s) (k := 0) hNe.symm rfl (.inr hq) rfl
          | exact r_wk (st := s) (k := 0) hNe.symm rfl (.inr hq) (by have hh := of_decide_eq_false (by assumption : decide ((0 : Int) < (N : Int)) = false); omega)
          | trace_state
      · have hd : ((s.threads.length : Int) < (s.threads.length : Int)) = False := by simp
        simp -implicitDefEqProofs only [if_neg h0, List.cons_append, List.nil_append]
        repeat' with_reducible first | refine gTn_of (fun h => ?_) (fun h => ?_) | refine gT_of (fun h => ?_) (fun h => ?_) | refine caseTn_of (fun h => ?_) (fun h => ?_) | refine caseT_of (fun h => ?_) (fun h => ?_) | refine FN ?_ ?_ ?_ ?_ rfl ?_ | refine kv_ifn ?_ ?_ | refine kv_if ?_ ?_ | refine k_if ?_ ?_ | refine IA ?_ ?_ ?_ | refine L1 ?_ ?_ | refine L2 ?_ ?_ | refine L3 ?_ ?_ ?_ ?_ | refine L4 ?_ ?_ | refine L5 ?_ ?_ ?_ ?_ ?_ | refine L6 ?_ ?_ ?_ ?_ ?_ | refine AC.p0 (con53s ?_) ?_ (by simp -implicitDefEqProofs only [qU, pure_encZ]; done) ?_ ?_ | refine AC.p0 (con122s ?_) ?_ (by simp -implicitDefEqProofs only [qU, pure_encZ]; done) ?_ ?_ | refine AC.p0 (con49s ?_ ?_) ?_ (by simp -implicitDefEqProofs only [qU, pure_encZ]; done) ?_ ?_ | simp -implicitDefEqProofs only [F51, qA, ld_0, ld_pv, st_0, splice, doEqs, qU, List.reduceReplicate, Nat.reduceAdd, Nat.reduceSub, Nat.reduceLeDiff, Nat.reduceEqDiff, Nat.reduceMul, reduceIte, reduceCtorEq, qI, Nat.reduceLT, Nat.reduceBEq, up_s, Int.toNat_natCast, qZ, nl_s, nl_0, qC, encI, lm_normal, lm_exit, lm_ret, Int.natCast_zero, Int.reduceEq, Int.reduceNe, wake_m1, doBslice, trss_append, lst_len, *]
        all_goals first
          | refine lm_of 8 (fun t : Nat × State => nl 1 (some (.int .i64 m) :: nl 2 (some (.ptr 2 0 0) :: nl 1 (some (.ptr 3 0 0) :: some (.slv 1 ((lst s.threads.length).map encI)) :: nl 17 (some (.int .i64 N) :: some (.int .i64 t.1) :: nl 17 []))))) (fun t => [(2, .rows 33 20 [[(.int .i64 0), (.int .i64 0), (.int .i64 0), (.int .i64 0), (.int .i64 0), (.int .i64 0), (.bool false), (.int .i64 0), (.int .i64 0), (.int .i64 0), .slnil, .slnil, .slnil, (.int .i64 0), .slnil, (.int .i64 0), .slnil, (.int .i64 0), .slnil, .slnil]]), (3, .rows 33 20 [encZ t.2])]) (fun t => t.1 ≤ N ∧ pRound (pAll s) N s = ((pRound (pAll s) (N - t.1) t.2).1, (pRound (pAll s) (N - t.1) t.2).2 + t.1) ∧ Bd t.2 (10000 + 10000 * t.1)) (fun t => N - t.1) [4] [(2, 2), (3, 3)] (0, s) (by omega) ?_ ?_ ?_ ?_ ?_ ?_
          | trace_state
        rotate_right
        · rintro ⟨k, st⟩ ⟨hJ1, hJ2, hJ3⟩
          simp only [] at hJ1 hJ2 hJ3
          have hb9 := hJ3.mono (n := 10000000) (by omega)
          have hlL : (lst s.threads.length).length ≤ 10000000 := by rw [lst_len]; omega
          clear hd
          simp only [all_some, all_none, all_nil, nl_s, nl_0]
          intros
          repeat' with_reducible first | refine gTn_of (fun h => ?_) (fun h => ?_) | refine gT_of (fun h => ?_) (fun h => ?_) | refine caseTn_of (fun h => ?_) (fun h => ?_) | refine caseT_of (fun h => ?_) (fun h => ?_) | refine FN ?_ ?_ ?_ ?_ rfl ?_ | refine kv_ifn ?_ ?_ | refine kv_if ?_ ?_ | refine k_if ?_ ?_ | refine IA ?_ ?_ ?_ | refine L1 ?_ ?_ | refine L2 ?_ ?_ | refine L3 ?_ ?_ ?_ ?_ | refine L4 ?_ ?_ | refine L5 ?_ ?_ ?_ ?_ ?_ | refine L6 ?_ ?_ ?_ ?_ ?_ | refine AC.p0 (con53s ?_) ?_ (by simp -implicitDefEqProofs only [qU, pure_encZ]; done) ?_ ?_ | refine AC.p0 (con122s ?_) ?_ (by simp -implicitDefEqProofs only [qU, pure_encZ]; done) ?_ ?_ | refine AC.p0 (con49s ?_ ?_) ?_ (by simp -implicitDefEqProofs only [qU, pure_encZ]; done) ?_ ?_ | refine rm_of [] [(2, 2), (3, 3)] (k + 1, (pSome st (lst s.threads.length)).1) ?_ ?_ ?_ ?_ ?_ ?_ | simp -implicitDefEqProofs only [F51, qA, ld_0, ld_pv, st_0, splice, doEqs, qU, List.reduceReplicate, Nat.reduceAdd, Nat.reduceSub, Nat.reduceLeDiff, Nat.reduceEqDiff, Nat.reduceMul, reduceIte, reduceCtorEq, qI, Nat.reduceLT, Nat.reduceBEq, up_s, Int.toNat_natCast, qZ, nl_s, nl_0, qC, encI, lm_normal, lm_exit, lm_ret, Int.natCast_zero, Int.reduceEq, Int.reduceNe, wake_m1, doBslice, trss_append, lst_len, *]
          all_goals first
            | exact hb9
            | exact hlL
            | exact r_wk hNe.symm hJ2 (.inr (by assumption)) rfl
            | exact r_wk hNe.symm hJ2 (.inl (by have hh := of_decide_eq_false (by assumption : decide ((k : Int) < (N : Int)) = false); omega)) (by have hh := of_decide_eq_false (by assumption : decide ((k : Int) < (N : Int)) = false); omega)
            | (have hk0 := of_decide_eq_true (by assumption : decide ((k : Int) < (N : Int)) = true)
               have hk : k < N := by omega
               first
               | omega
               | (have e := pRound_next (l := pAll s) (by assumption) hk
                  have e2 : (pRound (pAll s) (N - k) st).2 = (pRound (pAll s) (N - (k + 1)) (pSome st (lst s.threads.length)).1).2 + 1 := congrArg (·.2) e
                  exact ⟨hk, ⟨congrArg (·.1) e, by omega⟩, (bd_pSome _ hJ3).mono (by rw [lst_len]; omega)⟩)
               | exact ⟨trivial, by rw [wrap64 (by omega) (by omega)]; omega⟩
               | (rw [wrap64 (by omega) (by omega)]; omega))
            | trace_state
        all_goals first
          | omega
          | exact ⟨Nat.zero_le _, rfl, hb⟩
          | (have hTk : ((lst s.threads.length).map encI).take s.threads.length = (lst s.threads.length).map encI := List.take_of_length_le (by simp [lst_len])
             (simp -implicitDefEqProofs only [qA, ld_0, ld_pv, st_0, splice, doEqs, qU, List.reduceReplicate, Nat.reduceAdd, Nat.reduceSub, Nat.reduceLeDiff, Nat.reduceEqDiff, Nat.reduceMul, reduceIte, reduceCtorEq, qI, Nat.reduceLT, Nat.reduceBEq, qZ, nl_s, nl_0, hN, hTk, lst_len]; first | done | (simp; done)))
          | trace_state
  all_goals first
    | omega
    | (have hL : lst 0 = [] := rfl
       (simp -implicitDefEqProofs only [qA, ld_0, ld_pv, st_0, splice, doEqs, qU, List.reduceReplicate, Nat.reduceAdd, Nat.reduceSub, Nat.reduceLeDiff, Nat.reduceEqDiff, Nat.reduceMul, reduceIte, reduceCtorEq, qI, Nat.reduceLT, Nat.reduceBEq, qZ, nl_s, nl_0]; first | done | (simp; done)))
    | trace_state

end Go.Sak
