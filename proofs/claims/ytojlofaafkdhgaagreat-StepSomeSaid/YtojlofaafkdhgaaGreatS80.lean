/- Part S80 of the proofs about the program: K91. Conditions: none. -/
import Derived.Test.YtojlofaafkdhgaaGreatS78
import Derived.Test.YtojlofaafkdhgaaGreatS04
import Derived.Test.YtojlofaafkdhgaaGreatProg
import Derived.KernelRfl
namespace Go.Sak
open Go Go.RowKit Go.Proofs
set_option linter.unusedVariables false
set_option linter.unusedSimpArgs false
set_option maxRecDepth 10000
set_option maxHeartbeats 8000000
def F17 : AFn := ⟨76, (.seq (.reg [o1 3 (.box 33 0), o1 6 (.mv (.const (.bool false)))]) (.seq (.reg [o1 15 (.call 47 []), o1 7 (.mv 15)]) (.seq (.seq (.reg [o1 16 (.ld 20 true 3), o1 17 (.call 22 [16]), o1 18 (.not 17), o1 19 (.mv 18), o4 20 (.mv 1) 19, o4 21 (.len 20) 19, o4 22 (.bin .gtr 21 (ci 20)) 19, o1 23 (.pick 19 (.const (.bool true)) 22)]) (.cond 23 (.seq (.reg [o1 24 (.mv 7), o1 6 (.mv 24)]) .ret) .skip)) (.seq (.reg [o1 25 (.mv 2), o1 26 (.conv .i64 25), o1 27 (.mv 1), o1 28 (.len 27), o1 29 (.bin .add 28 (ci 1)), o1 30 (.bin .rem 26 29), o1 8 (.mv 30)]) (.seq (.reg [o1 32 (.ld 20 true 3), o1 33 (.mv 1), o1 34 (.call 49 [32, 33]), o1 31 (.mv 34), o1 35 (.ext 31 0), o1 36 (.ext 31 1), o1 9 (.alloc 33 [(.int .i64 0), (.int .i64 0), (.int .i64 0), (.int .i64 0), (.int .i64 0), (.int .i64 0), (.bool false), (.int .i64 0), (.int .i64 0), (.int .i64 0), .slnil, .slnil, .slnil, (.int .i64 0), .slnil, (.int .i64 0), .slnil, (.int .i64 0), .slnil, .slnil]), o2 (.st 20 9 35), o1 10 (.mv 36)]) (.seq (.regT [o1 38 (.ld 20 true 3), o1 39 (.mv 1), o1 40 (.mv 8), o1 41 (.slc 1 39 none (some 40)), o1 42 (.call 49 [38, 41]), o1 37 (.mv 42), o1 43 (.ext 37 0), o1 44 (.ext 37 1), o1 11 (.alloc 33 [(.int .i64 0), (.int .i64 0), (.int .i64 0), (.int .i64 0), (.int .i64 0), (.int .i64 0), (.bool false), (.int .i64 0), (.int .i64 0), (.int .i64 0), .slnil, .slnil, .slnil, (.int .i64 0), .slnil, (.int .i64 0), .slnil, (.int .i64 0), .slnil, .slnil]), o2 (.st 20 11 43), o1 12 (.mv 44)] [(0, 3), (0, 8), (3, 8), (4, 8)]) (.seq (.regT [o1 46 (.ld 20 true 11), o1 47 (.mv 1), o1 48 (.mv 8), o1 49 (.slc 1 47 (some 48) none), o1 50 (.call 49 [46, 49]), o1 45 (.mv 50), o1 51 (.ext 45 0), o1 52 (.ext 45 1), o1 13 (.alloc 33 [(.int .i64 0), (.int .i64 0), (.int .i64 0), (.int .i64 0), (.int .i64 0), (.int .i64 0), (.bool false), (.int .i64 0), (.int .i64 0), (.int .i64 0), .slnil, .slnil, .slnil, (.int .i64 0), .slnil, (.int .i64 0), .slnil, (.int .i64 0), .slnil, .slnil]), o2 (.st 20 13 51), o1 14 (.mv 52)] [(0, 3), (0, 8), (3, 8), (4, 8)]) (.seq (.reg [o1 53 (.mv 7), o1 54 (.mv 53), o3 55 (.ld 20 true 9) 54, o3 56 (.ld 20 true 13) 54, o3 57 (.call 25 [55, 56]) 54, o1 58 (.pick 54 57 (.const (.bool false))), o1 59 (.mv 58), o3 60 (.mv 10) 59, o3 61 (.mv 12) 59, o3 62 (.mv 14) 59, o3 63 (.bin .add 61 62) 59, o3 64 (.bin .eql 60 63) 59, o1 65 (.pick 59 64 (.const (.bool false))), o1 66 (.mv 65), o3 67 (.mv 10) 66, o3 68 (.mv 1) 66, o3 69 (.len 68) 66, o3 70 (.bin .leq 67 69) 66, o1 71 (.pick 66 70 (.const (.bool false))), o1 72 (.mv 71), o3 73 (.mv 10) 72, o3 74 (.bin .geq 73 (ci 0)) 72, o1 75 (.pick 72 74 (.const (.bool false))), o1 6 (.mv 75)]) .ret)))))))), [(6, none)]⟩
theorem x17 : xf Tryz.prog 17 = some F17 := by kernel_rfl
theorem slc_hi {f : Nat → Option Blk} {g0 : Nat} {l : List Int} {k : Nat} (h : k ≤ l.length) : doSlc f g0 1 (.slv 1 (l.map encI)) none (some (.int .i64 k)) = some { v := .slv 1 ((l.take k).map encI) } := by
  simp [doSlc, h, List.map_take]
theorem slc_lo {f : Nat → Option Blk} {g0 : Nat} {l : List Int} {k : Nat} (h : k ≤ l.length) : doSlc f g0 1 (.slv 1 (l.map encI)) (some (.int .i64 k)) none = some { v := .slv 1 ((l.drop k).map encI) } := by
  simp only [doSlc, List.length_map]
  rw [if_pos (by simp; omega)]
  rw [List.take_of_length_le (by simp), List.map_drop]; rfl
theorem con17 {s : State} {l : List Int} {cut : Int} (hm : 0 ≤ cut) : Con Tryz.prog 17 [.agg (encZ s), .slv 1 (l.map encI), .int .u8 cut] (.bool true, [], []) := by
  obtain ⟨k, hk⟩ : ∃ k : Nat, (k : Int) = cut.tmod ((l.length : Int) + 1) := ⟨(cut.tmod ((l.length : Int) + 1)).toNat, by have := Int.tmod_nonneg ((l.length : Int) + 1) hm; omega⟩
  have hkl : k ≤ l.length := by have := Int.tmod_lt_of_pos cut (b := (l.length : Int) + 1) (by omega); omega
  have hA : pSome s l = ((pSome (pSome s (l.take k)).1 (l.drop k)).1, (pSome s (l.take k)).2 + (pSome (pSome s (l.take k)).1 (l.drop k)).2) := by
    have := pSome_app s (l.take k) (l.drop k)
    rw [List.take_append_drop] at this; exact this
  have hi := pSome_in l s
  have hi1 := pSome_in (l.take k) s
  have hi2 := pSome_in (l.drop k) (pSome s (l.take k)).1
  refine mcb_of_vc mix x17 (by simp [F17]) fun hw _ => ?_
  simp only [wfs, AV.wf, inR_i64] at hw
  have hwm : IntKind.wrap .i64 cut = cut := by
    have h2 : inR .u8 cut := hw.2.2.1
    unfold inR at h2
    rw [show IntKind.u8.max = 255 from by decide] at h2
    exact wrap64 (by omega) (by omega)
  clear hw
  have hkk := hk.symm
  have hz : ((l.length : Int) + 1 = 0) = False := by simp; omega
  by_cases h20 : (l.length : Int) ≤ 20
  · have hwl : IntKind.wrap .i64 ((l.length : Int) + 1) = (l.length : Int) + 1 := wrap64 (by omega) (by omega)
    have hs1 := @slc_hi (f := AM.get []) (g0 := 0) l k hkl
    have hd20 : ((l.length : Int) > 20) = False := by simp; omega
    clear hk
    generalize hS : pSome s l = S at hA hi ⊢
    subst hA
    simp only [] at hi
    have hws : IntKind.wrap .i64 ((pSome s (l.take k)).2 + (pSome (pSome s (l.take k)).1 (l.drop k)).2) = (pSome s (l.take k)).2 + (pSome (pSome s (l.take k)).1 (l.drop k)).2 := wrap64 (by omega) (by omega)
    repeat' with_reducible first | refine gTn_of (fun h => ?_) (fun h => ?_) | refine gT_of (fun h => ?_) (fun h => ?_) | refine caseTn_of (fun h => ?_) (fun h => ?_) | refine caseT_of (fun h => ?_) (fun h => ?_) | refine FN ?_ ?_ ?_ ?_ rfl ?_ | refine kv_ifn ?_ ?_ | refine kv_if ?_ ?_ | refine k_if ?_ ?_ | refine IA ?_ ?_ ?_ | refine L1 ?_ ?_ | refine L2 ?_ ?_ | refine L3 ?_ ?_ ?_ ?_ | refine L4 ?_ ?_ | refine L5 ?_ ?_ ?_ ?_ ?_ | refine L6 ?_ ?_ ?_ ?_ ?_ | refine AC.p0 (con47 ) ?_ (by simp -implicitDefEqProofs only [qU, pure_encZ]; done) ?_ ?_ | refine AC.p0 (con22s ) ?_ (by simp -implicitDefEqProofs only [qU, pure_encZ]; done) ?_ ?_ | refine AC.p0 (con49s ?_ ?_) ?_ (by simp -implicitDefEqProofs only [qU, pure_encZ]; done) ?_ ?_ | refine AC.p0 (con25s ?_) ?_ (by simp -implicitDefEqProofs only [qU, pure_encZ]; done) ?_ ?_ | simp -implicitDefEqProofs only [F17, qA, ld_0, ld_pv, st_0, splice, doEqs, qU, List.reduceReplicate, Nat.reduceAdd, Nat.reduceSub, Nat.reduceLeDiff, Nat.reduceEqDiff, Nat.reduceMul, reduceIte, reduceCtorEq, qI, Nat.reduceLT, Nat.reduceBEq, up_s, Int.toNat_natCast, encT, qZ, qC, Int.natCast_zero, Int.reduceEq, Int.reduceNe, doConv, hwm, hwl, hkk, slc_hi hkl, slc_lo hkl, *]
    all_goals first
      | exact Wk.refl _
      | exact (few_bd (by assumption)).mono (by omega)
      | (intro e; simp [hz] at e; done)
      | omega
      | (simp only [List.length_take, List.length_drop]; omega)
      | exact (bd_pSome _ (few_bd (by assumption))).mono (by simp only [List.length_take]; omega)
      | exact (bd_pSome _ (bd_pSome _ (few_bd (by assumption)))).mono (by simp only [List.length_take, List.length_drop]; omega)
      | (rw [decide_eq_true (by omega)]; exact Wk.refl _)
      | trace_state
  · have hd20 : ((l.length : Int) > 20) = True := by simp; omega
    clear hkk hk hA
    repeat' with_reducible first | refine gTn_of (fun h => ?_) (fun h => ?_) | refine gT_of (fun h => ?_) (fun h => ?_) | refine caseTn_of (fun h => ?_) (fun h => ?_) | refine caseT_of (fun h => ?_) (fun h => ?_) | refine FN ?_ ?_ ?_ ?_ rfl ?_ | refine kv_ifn ?_ ?_ | refine kv_if ?_ ?_ | refine k_if ?_ ?_ | refine IA ?_ ?_ ?_ | refine L1 ?_ ?_ | refine L2 ?_ ?_ | refine L3 ?_ ?_ ?_ ?_ | refine L4 ?_ ?_ | refine L5 ?_ ?_ ?_ ?_ ?_ | refine L6 ?_ ?_ ?_ ?_ ?_ | refine AC.p0 (con47 ) ?_ (by simp -implicitDefEqProofs only [qU, pure_encZ]; done) ?_ ?_ | refine AC.p0 (con22s ) ?_ (by simp -implicitDefEqProofs only [qU, pure_encZ]; done) ?_ ?_ | refine AC.p0 (con49s ?_ ?_) ?_ (by simp -implicitDefEqProofs only [qU, pure_encZ]; done) ?_ ?_ | refine AC.p0 (con25s ?_) ?_ (by simp -implicitDefEqProofs only [qU, pure_encZ]; done) ?_ ?_ | simp -implicitDefEqProofs only [F17, qA, ld_0, ld_pv, st_0, splice, doEqs, qU, List.reduceReplicate, Nat.reduceAdd, Nat.reduceSub, Nat.reduceLeDiff, Nat.reduceEqDiff, Nat.reduceMul, reduceIte, reduceCtorEq, qI, Nat.reduceLT, Nat.reduceBEq, up_s, Int.toNat_natCast, encT, qZ, qC, Int.natCast_zero, Int.reduceEq, Int.reduceNe, doConv, *]
    all_goals first
      | exact Wk.refl _
      | exact (few_bd (by assumption)).mono (by omega)
      | (intro e; simp [hz] at e; done)
      | omega
      | (simp only [List.length_take, List.length_drop]; omega)
      | exact (bd_pSome _ (few_bd (by assumption))).mono (by simp only [List.length_take]; omega)
      | exact (bd_pSome _ (bd_pSome _ (few_bd (by assumption)))).mono (by simp only [List.length_take, List.length_drop]; omega)
      | (rw [decide_eq_true (by omega)]; exact Wk.refl _)
      | trace_state

end Go.Sak
