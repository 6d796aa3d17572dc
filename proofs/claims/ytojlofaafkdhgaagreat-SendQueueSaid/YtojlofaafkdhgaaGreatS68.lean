/- Part S68 of the proofs about the program: K68, K69. Conditions: none. -/
import Derived.Test.YtojlofaafkdhgaaGreatS59
import Derived.Test.YtojlofaafkdhgaaGreatS67
import Derived.Test.YtojlofaafkdhgaaGreatS04
import Derived.Test.YtojlofaafkdhgaaGreatProg
import Derived.KernelRfl
namespace Go.Sak
open Go Go.RowKit Go.Proofs
set_option linter.unusedVariables false
set_option linter.unusedSimpArgs false
set_option maxRecDepth 10000
set_option maxHeartbeats 8000000
theorem cp_b {κ : Ef → Prop} {f : Nat → Option Blk} {g t n : Nat} {s : AV} {l : List Int} {rd : List Nat} (hx : rowsOf f 1 s = some (l.map encI, rd)) (hm : f g = some (.rows t 1 (List.replicate n [.int .i64 0]))) (hn : n = l.length + 1) (hg : g ∉ rd)
    (hk : κ (.int .i64 l.length, [(g, some (.rows t 1 ((l ++ [0]).map encI)))], g :: rd)) : okK (doCpy f 1 (.slm g n) s) κ := by
  have : doCpy f 1 (.slm g n) s = some { v := .int .i64 l.length, ups := [(g, some (.rows t 1 ((l ++ [0]).map encI)))], rd := g :: rd } := by
    simp only [doCpy, hx, hm]
    rw [if_pos ⟨trivial, by simp, hg⟩]
    subst hn
    simp [encI, List.take_of_length_le, List.drop_replicate]
    omega
  rw [this]; exact hk
theorem set_end {l : List Int} {n : Int} : (l ++ [0]).set l.length n = l ++ [n] := by
  rw [List.set_append_right _ _ (Nat.le_refl _)]; simp
def F111 : AFn := ⟨15, (.seq (.reg [o1 1 (.box 54 0), o1 2 (.alloc 54 [.slnil, (.int .i64 0), (.int .i64 0), (.int .i64 0)])]) (.seq (.reg [o1 4 (.faddr 0 1), o1 5 (.ld 1 false 4), o1 6 (.len 5), o1 7 (.mkslice 3 1 [(.int .i64 0)] 8 6 6), o1 3 (.mv 7)]) (.seq (.reg [o1 8 (.mv 3), o1 9 (.faddr 0 1), o1 10 (.ld 1 false 9), o1 11 (.cpy 1 8 10)]) (.seq (.reg [o1 12 (.mv 3), o1 13 (.faddr 0 1), o2 (.st 1 13 12)]) (.seq (.reg [o1 14 (.ld 4 true 1), o2 (.st 4 2 14)]) .ret))))), [(2, some (4, true))]⟩
theorem x111 : xf Tryz.prog 111 = some F111 := by kernel_rfl
theorem con111 {l : List Int} {c p m : Int} (hl : l.length ≤ 100000000) : Con Tryz.prog 111 [.agg [.slv 1 (l.map encI), .int .i64 c, .int .i64 p, .int .i64 m]] (.agg [.slv 1 (l.map encI), .int .i64 c, .int .i64 p, .int .i64 m], [], []) := by
  refine mcb_of_vc mix x111 (by simp [F111]) fun hw _ => ?_
  simp only [wfs, AV.wf, inR_i64, List.length_map] at hw
  repeat' with_reducible first | refine gTn_of (fun h => ?_) (fun h => ?_) | refine gT_of (fun h => ?_) (fun h => ?_) | refine caseTn_of (fun h => ?_) (fun h => ?_) | refine caseT_of (fun h => ?_) (fun h => ?_) | refine FN ?_ ?_ ?_ ?_ rfl ?_ | refine kv_ifn ?_ ?_ | refine kv_if ?_ ?_ | refine k_if ?_ ?_ | refine IA ?_ ?_ ?_ | refine L1 ?_ ?_ | refine L2 ?_ ?_ | refine L3 ?_ ?_ ?_ ?_ | refine L4 ?_ ?_ | refine L5 ?_ ?_ ?_ ?_ ?_ | refine L6 ?_ ?_ ?_ ?_ ?_ | simp -implicitDefEqProofs only [F111, qA, ld_0, ld_pv, st_0, splice, doEqs, qU, List.reduceReplicate, Nat.reduceAdd, Nat.reduceSub, Nat.reduceLeDiff, Nat.reduceEqDiff, Nat.reduceMul, reduceIte, reduceCtorEq, qI, Nat.reduceLT, Nat.reduceBEq, Int.toNat_natCast, rw_slv, doMkslice, encI, *]
  all_goals first
    | (rw [List.take_of_length_le (by simp; done), set_end]; exact Wk.refl _)
    | (rw [if_pos (by simp; done), List.take_of_length_le (by simp; done)]; exact Wk.refl _)
    | (rw [if_pos (by simp; done), List.take_of_length_le (by simp; done)]; refine Wk.of_eq ?_; simp [encI]; done)
    | exact ⟨rfl, by simp⟩
    | exact Wk.refl _
    | (simp; done)
    | omega
    | (simp [encI]; done)
    | trace_state

def F189 : AFn := ⟨17, (.seq (.reg [o1 1 (.box 117 0), o1 2 (.alloc 117 [.slnil, (.int .i64 0), (.int .i64 0), (.int .i64 0)])]) (.seq (.reg [o1 4 (.faddr 0 1), o1 5 (.ld 1 false 4), o1 6 (.len 5), o1 7 (.bin .sub 6 (ci 1)), o1 8 (.mkslice 3 1 [(.int .i64 0)] 8 7 7), o1 3 (.mv 8)]) (.seq (.reg [o1 9 (.mv 3), o1 10 (.faddr 0 1), o1 11 (.ld 1 false 10), o1 12 (.slc 1 11 (some (ci 1)) none), o1 13 (.cpy 1 9 12)]) (.seq (.reg [o1 14 (.mv 3), o1 15 (.faddr 0 1), o2 (.st 1 15 14)]) (.seq (.reg [o1 16 (.ld 4 true 1), o2 (.st 4 2 16)]) .ret))))), [(2, some (4, true))]⟩
theorem x189 : xf Tryz.prog 189 = some F189 := by kernel_rfl
theorem con189 {l : List Int} {c p m : Int} (hl : l.length ≤ 100000000) (h1 : 1 ≤ l.length) : Con Tryz.prog 189 [.agg [.slv 1 (l.map encI), .int .i64 c, .int .i64 p, .int .i64 m]] (.agg [.slv 1 ((l.drop 1).map encI), .int .i64 c, .int .i64 p, .int .i64 m], [], []) := by
  have hw1 : IntKind.wrap .i64 ((l.length : Int) - 1) = (l.length : Int) - 1 := wrap64 (by omega) (by omega)
  have ht1 : ((l.length : Int) - 1).toNat = l.length - 1 := by omega
  refine mcb_of_vc mix x189 (by simp [F189]) fun hw _ => ?_
  simp only [wfs, AV.wf, inR_i64, List.length_map] at hw
  repeat' with_reducible first | refine gTn_of (fun h => ?_) (fun h => ?_) | refine gT_of (fun h => ?_) (fun h => ?_) | refine caseTn_of (fun h => ?_) (fun h => ?_) | refine caseT_of (fun h => ?_) (fun h => ?_) | refine FN ?_ ?_ ?_ ?_ rfl ?_ | refine kv_ifn ?_ ?_ | refine kv_if ?_ ?_ | refine k_if ?_ ?_ | refine IA ?_ ?_ ?_ | refine L1 ?_ ?_ | refine L2 ?_ ?_ | refine L3 ?_ ?_ ?_ ?_ | refine L4 ?_ ?_ | refine L5 ?_ ?_ ?_ ?_ ?_ | refine L6 ?_ ?_ ?_ ?_ ?_ | refine slc_from ?_ ?_ | simp -implicitDefEqProofs only [F189, qA, ld_0, ld_pv, st_0, splice, doEqs, qU, List.reduceReplicate, Nat.reduceAdd, Nat.reduceSub, Nat.reduceLeDiff, Nat.reduceEqDiff, Nat.reduceMul, reduceIte, reduceCtorEq, qI, Nat.reduceLT, Nat.reduceBEq, Int.toNat_natCast, rw_slv, doMkslice, encI, hw1, ht1, *]
  all_goals first
    | (rw [List.take_of_length_le (by simp; done), set_end]; exact Wk.refl _)
    | (rw [if_pos (by simp; done), List.take_of_length_le (by simp; done)]; exact Wk.refl _)
    | (rw [if_pos (by simp; done), List.take_of_length_le (by simp; done)]; refine Wk.of_eq ?_; simp [encI]; done)
    | exact ⟨rfl, by simp⟩
    | exact Wk.refl _
    | (simp; done)
    | omega
    | (simp [encI]; done)
    | trace_state

def F192 : AFn := ⟨24, (.seq (.reg [o1 2 (.box 117 0), o1 4 (.alloc 117 [.slnil, (.int .i64 0), (.int .i64 0), (.int .i64 0)])]) (.seq (.reg [o1 6 (.faddr 0 2), o1 7 (.ld 1 false 6), o1 8 (.len 7), o1 9 (.bin .add 8 (ci 1)), o1 10 (.mkslice 3 1 [(.int .i64 0)] 8 9 9), o1 5 (.mv 10)]) (.seq (.reg [o1 11 (.mv 5), o1 12 (.faddr 0 2), o1 13 (.ld 1 false 12), o1 14 (.cpy 1 11 13)]) (.seq (.reg [o1 15 (.mv 5), o1 16 (.faddr 0 2), o1 17 (.ld 1 false 16), o1 18 (.len 17), o1 19 (.mv 1), o1 20 (.iaddr 1 15 18), o2 (.st 1 20 19)]) (.seq (.reg [o1 21 (.mv 5), o1 22 (.faddr 0 2), o2 (.st 1 22 21)]) (.seq (.reg [o1 23 (.ld 4 true 2), o2 (.st 4 4 23)]) .ret)))))), [(4, some (4, true))]⟩
theorem x192 : xf Tryz.prog 192 = some F192 := by kernel_rfl
theorem con192 {l : List Int} {n c p m : Int} (hl : l.length ≤ 100000000) : Con Tryz.prog 192 [.agg [.slv 1 (l.map encI), .int .i64 c, .int .i64 p, .int .i64 m], .int .i64 n] (.agg [.slv 1 ((l ++ [n]).map encI), .int .i64 c, .int .i64 p, .int .i64 m], [], []) := by
  have hw1 : IntKind.wrap .i64 ((l.length : Int) + 1) = (l.length : Int) + 1 := wrap64 (by omega) (by omega)
  have ht1 : ((l.length : Int) + 1).toNat = l.length + 1 := by omega
  refine mcb_of_vc mix x192 (by simp [F192]) fun hw _ => ?_
  simp only [wfs, AV.wf, inR_i64, List.length_map] at hw
  repeat' with_reducible first | refine gTn_of (fun h => ?_) (fun h => ?_) | refine gT_of (fun h => ?_) (fun h => ?_) | refine caseTn_of (fun h => ?_) (fun h => ?_) | refine caseT_of (fun h => ?_) (fun h => ?_) | refine FN ?_ ?_ ?_ ?_ rfl ?_ | refine kv_ifn ?_ ?_ | refine kv_if ?_ ?_ | refine k_if ?_ ?_ | refine IA ?_ ?_ ?_ | refine L1 ?_ ?_ | refine L2 ?_ ?_ | refine cp_b (rw_slv _ _ _) (by simp -implicitDefEqProofs only [m_get, Nat.reduceEqDiff, reduceIte, if_true, if_false]; first | done | exact rfl) ?_ ?_ ?_ | refine L4 ?_ ?_ | refine L5 ?_ ?_ ?_ ?_ ?_ | refine L6 ?_ ?_ ?_ ?_ ?_ | refine st_row (enc := encI) (d := default) (y := n) (by simp -implicitDefEqProofs only [m_get, Nat.reduceEqDiff, reduceIte, if_true, if_false]; first | done | exact rfl) ?_ ?_ ?_ ?_ ?_ ?_ | simp -implicitDefEqProofs only [F192, qA, ld_0, ld_pv, st_0, splice, doEqs, qU, List.reduceReplicate, Nat.reduceAdd, Nat.reduceSub, Nat.reduceLeDiff, Nat.reduceEqDiff, Nat.reduceMul, reduceIte, reduceCtorEq, qI, Nat.reduceLT, Nat.reduceBEq, Int.toNat_natCast, rw_slv, doMkslice, hw1, ht1, *]
  all_goals first
    | (rw [List.take_of_length_le (by simp; done), set_end]; exact Wk.refl _)
    | (rw [if_pos (by simp; done), List.take_of_length_le (by simp; done)]; exact Wk.refl _)
    | (rw [if_pos (by simp; done), List.take_of_length_le (by simp; done)]; refine Wk.of_eq ?_; simp [encI]; done)
    | exact ⟨rfl, by simp⟩
    | exact Wk.refl _
    | (simp; done)
    | omega
    | (simp [encI]; done)
    | trace_state

def F188 : AFn := ⟨17, (.seq (.reg [o1 2 (.box 117 0), o1 4 (.mv (.const (.bool false)))]) (.seq (.reg [o1 5 (.faddr 0 2), o1 6 (.ld 1 false 5), o1 7 (.len 6), o1 8 (.bin .gtr 7 (ci 0)), o1 9 (.mv 8), o3 10 (.faddr 0 2) 9, o3 11 (.ld 1 false 10) 9, o3 12 (.iaddr 1 11 (ci 0)) 9, o3 13 (.ld 1 false 12) 9, o3 14 (.mv 1) 9, o3 15 (.bin .eql 13 14) 9, o1 16 (.pick 9 15 (.const (.bool false))), o1 4 (.mv 16)]) .ret)), [(4, none)]⟩
theorem x188 : xf Tryz.prog 188 = some F188 := by kernel_rfl
theorem con188 {l : List Int} {n c p m : Int} (hl : l.length ≤ 100000000) : Con Tryz.prog 188 [.agg [.slv 1 (l.map encI), .int .i64 c, .int .i64 p, .int .i64 m], .int .i64 n] (.bool (qFirst l n), [], []) := by
  refine mcb_of_vc mix x188 (by simp [F188]) fun hw _ => ?_
  simp only [wfs, AV.wf, inR_i64, List.length_map] at hw
  repeat' with_reducible first | refine gTn_of (fun h => ?_) (fun h => ?_) | refine gT_of (fun h => ?_) (fun h => ?_) | refine caseTn_of (fun h => ?_) (fun h => ?_) | refine caseT_of (fun h => ?_) (fun h => ?_) | refine FN ?_ ?_ ?_ ?_ rfl ?_ | refine kv_ifn ?_ ?_ | refine kv_if ?_ ?_ | refine k_if ?_ ?_ | refine IA ?_ ?_ ?_ | refine L1 ?_ ?_ | refine L2 ?_ ?_ | refine L3 ?_ ?_ ?_ ?_ | refine L4 ?_ ?_ | refine L5 ?_ ?_ ?_ ?_ ?_ | refine L6 ?_ ?_ ?_ ?_ ?_ | refine ia_of (d := default) ?_ ?_ | simp -implicitDefEqProofs only [F188, qA, ld_0, ld_pv, st_0, splice, doEqs, qU, List.reduceReplicate, Nat.reduceAdd, Nat.reduceSub, Nat.reduceLeDiff, Nat.reduceEqDiff, Nat.reduceMul, reduceIte, reduceCtorEq, qI, Nat.reduceLT, Nat.reduceBEq, Int.toNat_natCast, rw_slv, doMkslice, encI, *]
  all_goals first
    | (rw [List.take_of_length_le (by simp; done), set_end]; exact Wk.refl _)
    | (rw [if_pos (by simp; done), List.take_of_length_le (by simp; done)]; exact Wk.refl _)
    | (rw [if_pos (by simp; done), List.take_of_length_le (by simp; done)]; refine Wk.of_eq ?_; simp [encI]; done)
    | exact ⟨rfl, by simp⟩
    | exact Wk.refl _
    | (simp; done)
    | omega
    | (simp [encI]; done)
    | (refine Wk.of_eq ?_; grind [qFirst])
    | grind [qFirst]
    | trace_state

def F193 : AFn := ⟨36, (.seq (.reg [o1 3 (.box 117 0), o1 4 (.box 61 1), o1 6 (.mv (.const (.bool false)))]) (.seq (.reg [o1 7 (.faddr 3 4), o1 8 (.ld 1 false 7), o1 9 (.bin .eql 8 (ci 6)), o1 10 (.mv 9), o3 11 (.faddr 3 3) 10, o3 12 (.ld 1 false 11) 10, o3 13 (.bin .eql 12 (ci 1)) 10, o1 14 (.pick 10 13 (.const (.bool false))), o1 15 (.mv 14), o4 16 (.faddr 3 4) 15, o4 17 (.ld 1 false 16) 15, o4 18 (.bin .eql 17 (ci 7)) 15, o4 19 (.mv 18) 15, o3 20 (.faddr 3 3) 19, o3 21 (.ld 1 false 20) 19, o3 22 (.bin .eql 21 (ci 2)) 19, o4 23 (.pick 19 22 (.const (.bool false))) 15, o1 24 (.pick 15 (.const (.bool true)) 23), o1 25 (.mv 24), o4 26 (.faddr 3 4) 25, o4 27 (.ld 1 false 26) 25, o4 28 (.bin .eql 27 (ci 5)) 25, o4 29 (.mv 28) 25, o3 30 (.faddr 1 4) 29, o3 31 (.ld 1 false 30) 29, o3 32 (.mv 2) 29, o3 33 (.bin .eql 31 32) 29, o4 34 (.pick 29 33 (.const (.bool false))) 25, o1 35 (.pick 25 (.const (.bool true)) 34), o1 6 (.mv 35)]) .ret)), [(6, none)]⟩
theorem x193 : xf Tryz.prog 193 = some F193 := by kernel_rfl
theorem con193 {l : List Int} {e_th e_k e_v e_r e_g u c p m : Int} (hl : l.length ≤ 100000000) : Con Tryz.prog 193 [.agg [.slv 1 (l.map encI), .int .i64 c, .int .i64 p, .int .i64 m], .agg [.int .i64 e_th, .int .i64 e_k, .int .i64 e_v, .int .i64 e_r, .int .i64 e_g], .int .i64 u] (.bool (qEnds m e_k e_r u), [], []) := by
  refine mcb_of_vc mix x193 (by simp [F193]) fun hw _ => ?_
  simp only [wfs, AV.wf, inR_i64, List.length_map] at hw
  repeat' with_reducible first | refine gTn_of (fun h => ?_) (fun h => ?_) | refine gT_of (fun h => ?_) (fun h => ?_) | refine caseTn_of (fun h => ?_) (fun h => ?_) | refine caseT_of (fun h => ?_) (fun h => ?_) | refine FN ?_ ?_ ?_ ?_ rfl ?_ | refine kv_ifn ?_ ?_ | refine kv_if ?_ ?_ | refine k_if ?_ ?_ | refine IA ?_ ?_ ?_ | refine L1 ?_ ?_ | refine L2 ?_ ?_ | refine L3 ?_ ?_ ?_ ?_ | refine L4 ?_ ?_ | refine L5 ?_ ?_ ?_ ?_ ?_ | refine L6 ?_ ?_ ?_ ?_ ?_ | simp -implicitDefEqProofs only [F193, qA, ld_0, ld_pv, st_0, splice, doEqs, qU, List.reduceReplicate, Nat.reduceAdd, Nat.reduceSub, Nat.reduceLeDiff, Nat.reduceEqDiff, Nat.reduceMul, reduceIte, reduceCtorEq, qI, Nat.reduceLT, Nat.reduceBEq, Int.toNat_natCast, rw_slv, doMkslice, *]
  all_goals first
    | (rw [List.take_of_length_le (by simp; done), set_end]; exact Wk.refl _)
    | (rw [if_pos (by simp; done), List.take_of_length_le (by simp; done)]; exact Wk.refl _)
    | (rw [if_pos (by simp; done), List.take_of_length_le (by simp; done)]; refine Wk.of_eq ?_; simp [encI]; done)
    | exact ⟨rfl, by simp⟩
    | exact Wk.refl _
    | (simp; done)
    | omega
    | (simp [encI]; done)
    | (refine Wk.of_eq ?_; grind [qEnds])
    | grind [qEnds]
    | trace_state

end Go.Sak
namespace Go.Sak
open Go Go.RowKit Go.Proofs
set_option linter.unusedVariables false
set_option linter.unusedSimpArgs false
set_option maxRecDepth 10000
set_option maxHeartbeats 8000000
def F190 : AFn := ⟨6, (.seq (.reg [o1 1 (.box 117 0), o1 2 (.mv (.const (.bool false)))]) (.seq (.reg [o1 3 (.faddr 3 1), o1 4 (.ld 1 false 3), o1 5 (.bin .eql 4 (ci 0)), o1 2 (.mv 5)]) .ret)), [(2, none)]⟩
theorem x190 : xf Tryz.prog 190 = some F190 := by kernel_rfl
theorem lf190 : F190.code.lf = true := rfl
def F191 : AFn := ⟨9, (.seq (.reg [o1 1 (.box 117 0), o1 2 (.mv (.const (.bool false)))]) (.seq (.reg [o1 3 (.faddr 0 1), o1 4 (.ld 1 false 3), o1 5 (.len 4), o1 6 (.faddr 1 1), o1 7 (.ld 1 false 6), o1 8 (.bin .geq 5 7), o1 2 (.mv 8)]) .ret)), [(2, none)]⟩
theorem x191 : xf Tryz.prog 191 = some F191 := by kernel_rfl
theorem lf191 : F191.code.lf = true := rfl
def F109 : AFn := ⟨58, (.seq (.reg [o1 2 (.box 117 0), o1 3 (.box 61 1), o1 4 (.alloc 117 [.slnil, (.int .i64 0), (.int .i64 0), (.int .i64 0)]), o1 5 (.mv (.const (.bool false)))]) (.seq (.seq (.reg [o1 6 (.faddr 3 3), o1 7 (.ld 1 false 6)]) (.block 0 (.seq (.reg [o1 9 (.bin .eql 7 (ci 1)), o1 8 (.mv 9)]) (.cond 8 (.seq (.regT [o1 10 (.ld 4 true 2), o1 11 (.faddr 2 3), o1 12 (.ld 1 false 11), o1 13 (.call 192 [10, 12]), o1 14 (.ld 4 true 2), o1 15 (.call 190 [14]), o1 16 (.mv 15), o3 17 (.ld 4 true 2) 16, o3 18 (.call 191 [17]) 16, o3 19 (.not 18) 16, o1 20 (.pick 16 19 (.const (.bool false))), o2 (.st 4 4 13), o1 5 (.mv 20)] [(0, 1), (0, 2), (0, 4), (1, 4), (2, 4), (3, 4)]) .ret) (.seq (.reg [o1 22 (.bin .eql 7 (ci 2)), o1 21 (.mv 22)]) (.cond 21 (.seq (.regT [o1 23 (.ld 4 true 2), o1 24 (.faddr 1 3), o1 25 (.ld 1 false 24), o1 26 (.bin .eql 25 (ci 2)), o1 27 (.mv 26), o3 28 (.ld 4 true 2) 27, o3 29 (.call 190 [28]) 27, o1 30 (.pick 27 29 (.const (.bool false))), o1 31 (.mv 30), o3 32 (.ld 4 true 2) 31, o3 33 (.call 191 [32]) 31, o1 34 (.pick 31 33 (.const (.bool false))), o1 35 (.mv 34), o3 36 (.faddr 2 2) 35, o3 37 (.ld 1 false 36) 35, o3 38 (.bin .eql 37 (ci 0)) 35, o1 39 (.pick 35 38 (.const (.bool false))), o2 (.st 4 4 23), o1 5 (.mv 39)] [(0, 1), (0, 2), (0, 5), (0, 6), (0, 9), (0, 10), (0, 13), (0, 14), (13, 17), (14, 17)]) .ret) (.seq (.reg [o1 41 (.bin .eql 7 (ci 3)), o1 40 (.mv 41)]) (.cond 40 (.seq (.regT [o1 42 (.ld 4 true 2), o1 43 (.ld 4 true 2), o1 44 (.call 190 [43]), o1 45 (.mv 44), o3 46 (.ld 4 true 2) 45, o3 47 (.call 191 [46]) 45, o1 48 (.pick 45 47 (.const (.bool false))), o1 49 (.mv 48), o3 50 (.faddr 2 2) 49, o3 51 (.ld 1 false 50) 49, o3 52 (.bin .eql 51 (ci 1)) 49, o1 53 (.pick 49 52 (.const (.bool false))), o2 (.st 4 4 42), o1 5 (.mv 53)] [(0, 1), (0, 2), (0, 4), (0, 5), (0, 8), (0, 9), (8, 12), (9, 12)]) .ret) .skip)))))))) (.seq (.regT [o1 54 (.ld 4 true 2), o1 55 (.ld 4 true 2), o1 56 (.ld 5 true 3), o1 57 (.call 193 [55, 56, (ci 3)]), o2 (.st 4 4 54), o1 5 (.mv 57)] [(0, 1), (0, 2), (1, 2), (0, 3)]) .ret))), [(4, some (4, true)), (5, none)]⟩
theorem x109 : xf Tryz.prog 109 = some F109 := by kernel_rfl
theorem con109 {l : List Int} {e_th e_k e_v e_r e_g c p m : Int} (hl : l.length ≤ 10000000) : Con Tryz.prog 109 [.agg [.slv 1 (l.map encI), .int .i64 c, .int .i64 p, .int .i64 m], .agg [.int .i64 e_th, .int .i64 e_k, .int .i64 e_v, .int .i64 e_r, .int .i64 e_g]] (.tup [.agg (encQ (qSend ⟨l, c, p, m⟩ ⟨e_th, e_k, e_v, e_r, e_g⟩).1), .bool (qSend ⟨l, c, p, m⟩ ⟨e_th, e_k, e_v, e_r, e_g⟩).2], [], []) := by
  refine mcb_of_vc mix x109 (by simp [F109]) fun hw _ => ?_
  clear hw
  repeat' with_reducible first | refine gTn_of (fun h => ?_) (fun h => ?_) | refine gT_of (fun h => ?_) (fun h => ?_) | refine caseTn_of (fun h => ?_) (fun h => ?_) | refine caseT_of (fun h => ?_) (fun h => ?_) | refine FN ?_ ?_ ?_ ?_ rfl ?_ | refine kv_ifn ?_ ?_ | refine kv_if ?_ ?_ | refine k_if ?_ ?_ | refine I2 mix x190 lf190 ?_ ?_ ?_ ?_ ?_ | refine I2 mix x191 lf191 ?_ ?_ ?_ ?_ ?_ | refine IA ?_ ?_ ?_ | refine L1 ?_ ?_ | refine L2 ?_ ?_ | refine L3 ?_ ?_ ?_ ?_ | refine L4 ?_ ?_ | refine L5 ?_ ?_ ?_ ?_ ?_ | refine L6 ?_ ?_ ?_ ?_ ?_ | refine P0 (con188 ?_) ?_ ?_ ?_ | refine P0 (con189 ?_ ?_) ?_ ?_ ?_ | refine P0 (con192 ?_) ?_ ?_ ?_ | refine P0 (con193 ?_) ?_ ?_ ?_ | simp -implicitDefEqProofs only [F109, qA, ld_0, ld_pv, st_0, splice, doEqs, qU, List.reduceReplicate, Nat.reduceAdd, Nat.reduceSub, Nat.reduceLeDiff, Nat.reduceEqDiff, Nat.reduceMul, reduceIte, reduceCtorEq, qI, Nat.reduceLT, Nat.reduceBEq, F190, F191, up_s, Int.toNat_natCast, encT, encI, encE, *]
  all_goals first
    | omega
    | exact first_len (by assumption)
    | (refine Wk.of_eq ?_; simp only [encQ, qSend, qFull] at *; grind)
    | (refine Wk.of_eq ?_; simp only [encQ, qSend, qFull]; simp [*]; done)
    | trace_state

def F106 : AFn := ⟨30, (.seq (.reg [o1 2 (.box 117 0), o1 3 (.box 61 1), o1 4 (.alloc 117 [.slnil, (.int .i64 0), (.int .i64 0), (.int .i64 0)]), o1 5 (.mv (.const (.bool false)))]) (.seq (.seq (.reg [o1 6 (.ld 4 true 2), o1 7 (.faddr 4 3), o1 8 (.ld 1 false 7), o1 9 (.call 188 [6, 8]), o1 10 (.not 9)]) (.cond 10 (.seq (.reg [o1 11 (.ld 4 true 2), o2 (.st 4 4 11), o1 5 (.mv (.const (.bool false)))]) .ret) .skip)) (.seq (.regT [o1 12 (.ld 4 true 2), o1 13 (.call 189 [12]), o1 14 (.faddr 3 3), o1 15 (.ld 1 false 14), o1 16 (.bin .eql 15 (ci 1)), o1 17 (.mv 16), o3 18 (.ld 4 true 2) 17, o3 19 (.call 190 [18]) 17, o1 20 (.pick 17 19 (.const (.bool false))), o1 21 (.mv 20), o3 22 (.ld 4 true 2) 21, o3 23 (.call 191 [22]) 21, o1 24 (.pick 21 23 (.const (.bool false))), o1 25 (.mv 24), o3 26 (.faddr 2 2) 25, o3 27 (.ld 1 false 26) 25, o3 28 (.bin .eql 27 (ci 2)) 25, o1 29 (.pick 25 28 (.const (.bool false))), o2 (.st 4 4 13), o1 5 (.mv 29)] [(0, 2), (1, 2), (0, 3), (1, 3), (14, 18), (15, 18)]) .ret))), [(4, some (4, true)), (5, none)]⟩
theorem x106 : xf Tryz.prog 106 = some F106 := by kernel_rfl
theorem con106 {l : List Int} {e_th e_k e_v e_r e_g c p m : Int} (hl : l.length ≤ 10000000) : Con Tryz.prog 106 [.agg [.slv 1 (l.map encI), .int .i64 c, .int .i64 p, .int .i64 m], .agg [.int .i64 e_th, .int .i64 e_k, .int .i64 e_v, .int .i64 e_r, .int .i64 e_g]] (.tup [.agg (encQ (qEvict ⟨l, c, p, m⟩ ⟨e_th, e_k, e_v, e_r, e_g⟩).1), .bool (qEvict ⟨l, c, p, m⟩ ⟨e_th, e_k, e_v, e_r, e_g⟩).2], [], []) := by
  refine mcb_of_vc mix x106 (by simp [F106]) fun hw _ => ?_
  clear hw
  repeat' with_reducible first | refine gTn_of (fun h => ?_) (fun h => ?_) | refine gT_of (fun h => ?_) (fun h => ?_) | refine caseTn_of (fun h => ?_) (fun h => ?_) | refine caseT_of (fun h => ?_) (fun h => ?_) | refine FN ?_ ?_ ?_ ?_ rfl ?_ | refine kv_ifn ?_ ?_ | refine kv_if ?_ ?_ | refine k_if ?_ ?_ | refine I2 mix x190 lf190 ?_ ?_ ?_ ?_ ?_ | refine I2 mix x191 lf191 ?_ ?_ ?_ ?_ ?_ | refine IA ?_ ?_ ?_ | refine L1 ?_ ?_ | refine L2 ?_ ?_ | refine L3 ?_ ?_ ?_ ?_ | refine L4 ?_ ?_ | refine L5 ?_ ?_ ?_ ?_ ?_ | refine L6 ?_ ?_ ?_ ?_ ?_ | refine P0 (con188 ?_) ?_ ?_ ?_ | refine P0 (con189 ?_ ?_) ?_ ?_ ?_ | refine P0 (con192 ?_) ?_ ?_ ?_ | refine P0 (con193 ?_) ?_ ?_ ?_ | simp -implicitDefEqProofs only [F106, qA, ld_0, ld_pv, st_0, splice, doEqs, qU, List.reduceReplicate, Nat.reduceAdd, Nat.reduceSub, Nat.reduceLeDiff, Nat.reduceEqDiff, Nat.reduceMul, reduceIte, reduceCtorEq, qI, Nat.reduceLT, Nat.reduceBEq, F190, F191, up_s, Int.toNat_natCast, encT, encI, encE, *]
  all_goals first
    | omega
    | exact first_len (by assumption)
    | (refine Wk.of_eq ?_; simp only [encQ, qEvict, qFull] at *; grind)
    | (refine Wk.of_eq ?_; simp only [encQ, qEvict, qFull]; simp [*]; done)
    | trace_state

end Go.Sak
