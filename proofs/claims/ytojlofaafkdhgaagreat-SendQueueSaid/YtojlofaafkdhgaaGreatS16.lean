/- Part S16 of the proofs about the program: K8, K9, K10. Conditions: none. -/
import Derived.Test.YtojlofaafkdhgaaGreatS13
import Derived.Test.YtojlofaafkdhgaaGreatS03
import Derived.Test.YtojlofaafkdhgaaGreatS15
import Derived.Test.YtojlofaafkdhgaaGreatS04
import Derived.Test.YtojlofaafkdhgaaGreatProg
import Derived.KernelRfl
namespace Go.Sak
open Go Go.RowKit Go.Proofs
set_option linter.unusedVariables false
set_option linter.unusedSimpArgs false
set_option maxRecDepth 10000
set_option maxHeartbeats 8000000
def F99 : AFn := ⟨32, (.seq (.reg [o1 3 (.box 23 0), o1 6 (.mv (ci 0))]) (.seq (.block 0 (.seq (.reg [o1 8 (.mv 1), o1 9 (.bin .lss 8 (ci 0)), o1 10 (.mv 9), o4 11 (.mv 1) 10, o4 12 (.faddr 1 3) 10, o4 13 (.ld 1 false 12) 10, o4 14 (.bin .geq 11 13) 10, o1 15 (.pick 10 (.const (.bool true)) 14), o1 7 (.mv 15)]) (.cond 7 (.seq (.reg [o1 6 (.mv (ci 123))]) .ret) (.seq (.reg [o1 17 (.mv 2), o1 18 (.call 181 [17]), o1 19 (.not 18), o1 16 (.mv 19)]) (.cond 16 (.seq (.reg [o1 6 (.mv (ci 190))]) .ret) (.seq (.reg [o1 21 (.faddr 6 3), o1 22 (.ld 1 false 21), o1 23 (.mv 22), o3 24 (.mv 2) 23, o3 25 (.call 126 [24]) 23, o3 26 (.bin .eql 25 (ci 2)) 23, o1 27 (.pick 23 26 (.const (.bool false))), o1 28 (.mv 27), o3 29 (.mv 1) 28, o3 30 (.bin .gtr 29 (ci 0)) 28, o1 31 (.pick 28 30 (.const (.bool false))), o1 20 (.mv 31)]) (.cond 20 (.seq (.reg [o1 6 (.mv (ci 123))]) .ret) .skip))))))) (.seq (.reg [o1 6 (.mv (ci 0))]) .ret))), [(6, none)]⟩
theorem x99 : xf Tryz.prog 99 = some F99 := by kernel_rfl
theorem con99 {c_lg c_th : Int} {c_pol c_wt : Int} {c_spin c_yld : Int} {c_single : Bool} {id kind : Int}  : Con Tryz.prog 99 [.agg [.int .i64 c_lg, .int .i64 c_th, .int .i64 c_pol, .int .i64 c_wt, .int .i64 c_spin, .int .i64 c_yld, .bool c_single], .int .i64 id, .int .i64 kind] ((.int .i64 (opMay c_th c_single id kind)), [], []) := by
  refine mcb_of_vc mix x99 (by simp [F99]) fun hw _ => ?_
  simp only [wfs, AV.wf, inR_i64] at hw
  repeat' with_reducible first | refine gTn_of (fun h => ?_) (fun h => ?_) | refine gT_of (fun h => ?_) (fun h => ?_) | refine caseTn_of (fun h => ?_) (fun h => ?_) | refine caseT_of (fun h => ?_) (fun h => ?_) | refine fin_pure ?_ ?_ ?_ ?_ | refine kv_ifn ?_ ?_ | refine kv_if ?_ ?_ | refine k_if ?_ ?_ | refine P0 (con181) ?_ ?_ ?_ | refine ACV.of (con181) ?_ ?_ ?_ | refine ACK.of (con181) ?_ ?_ | refine P0 (con126) ?_ ?_ ?_ | refine ACV.of (con126) ?_ ?_ ?_ | refine ACK.of (con126) ?_ ?_ | simp -implicitDefEqProofs only [F99, qA, doLd, doSt, splice, doEqs, qU, List.reduceReplicate, Nat.reduceAdd, Nat.reduceSub, Nat.reduceLeDiff, Nat.reduceEqDiff, Nat.reduceMul, reduceIte, reduceCtorEq, *]
  all_goals first
    | (simp; done)
    | exact idxF_any
    | exact idxF_any.symm
    | grind [inR_i64, wrap64, maxLen_eq, opMay]

theorem i_shl (k : IntKind) (x y : Int) : binI .shl k x y = if y < 0 then none else some (.int k (k.wrap (x * 2 ^ (min y.toNat k.bits)))) := rfl
theorem conf_lg {c : Config} (h : confCheck c = 0) : 1 ≤ c.lg ∧ c.lg ≤ 6 := by
  unfold confCheck at h
  split at h
  · rename_i hc; simp [confOk, within] at hc; omega
  · cases h
theorem conf_shl {c : Config} (h : confCheck c = 0) : IntKind.wrap .i64 (1 * 2 ^ (min c.lg.toNat (IntKind.bits .i64))) = confRoom c := by
  obtain ⟨h1, h2⟩ := conf_lg h
  have hc : confOk c = true := by
    unfold confCheck at h
    split at h
    · assumption
    · cases h
  rw [confRoom, if_pos hc]
  have : c.lg = 1 ∨ c.lg = 2 ∨ c.lg = 3 ∨ c.lg = 4 ∨ c.lg = 5 ∨ c.lg = 6 := by omega
  rcases this with e | e | e | e | e | e <;> rw [e] <;> decide
theorem conf_shl2 {c : Config} (h : confCheck c = 0) : IntKind.wrap .i64 (2 ^ (min c.lg.toNat (IntKind.bits .i64))) = confRoom c := by simpa using conf_shl h
theorem conf_no {c : Config} (h : ¬ confCheck c = 0) : confRoom c = 0 := by
  unfold confCheck at h
  split at h
  · exact absurd rfl h
  · rename_i hc; simp [confRoom, hc]
def F89 : AFn := ⟨9, (.seq (.reg [o1 1 (.box 23 0), o1 2 (.mv (ci 0))]) (.seq (.seq (.reg [o1 3 (.ld 7 true 1), o1 4 (.call 97 [3]), o1 5 (.bin .neq 4 (ci 0))]) (.cond 5 (.seq (.reg [o1 2 (.mv (ci 0))]) .ret) .skip)) (.seq (.reg [o1 6 (.faddr 0 1), o1 7 (.ld 1 false 6), o1 8 (.bin .shl (ci 1) 7), o1 2 (.mv 8)]) .ret))), [(2, none)]⟩
theorem x89 : xf Tryz.prog 89 = some F89 := by kernel_rfl
theorem con89 {c_lg c_th : Int} {c_pol c_wt : Int} {c_spin c_yld : Int} {c_single : Bool}  : Con Tryz.prog 89 [.agg [.int .i64 c_lg, .int .i64 c_th, .int .i64 c_pol, .int .i64 c_wt, .int .i64 c_spin, .int .i64 c_yld, .bool c_single]] ((.int .i64 (confRoom (Config.mk c_lg c_th c_pol c_wt c_spin c_yld c_single))), [], []) := by
  refine mcb_of_vc mix x89 (by simp [F89]) fun hw _ => ?_
  simp only [wfs, AV.wf, inR_i64] at hw
  repeat' with_reducible first | refine gTn_of (fun h => ?_) (fun h => ?_) | refine gT_of (fun h => ?_) (fun h => ?_) | refine caseTn_of (fun h => ?_) (fun h => ?_) | refine caseT_of (fun h => ?_) (fun h => ?_) | refine fin_pure ?_ ?_ ?_ ?_ | refine kv_ifn ?_ ?_ | refine kv_if ?_ ?_ | refine k_if ?_ ?_ | refine P0 (con97) ?_ ?_ ?_ | refine ACV.of (con97) ?_ ?_ ?_ | refine ACK.of (con97) ?_ ?_ | simp -implicitDefEqProofs only [F89, qA, doLd, doSt, splice, doEqs, qU, List.reduceReplicate, Nat.reduceAdd, Nat.reduceSub, Nat.reduceLeDiff, Nat.reduceEqDiff, Nat.reduceMul, reduceIte, reduceCtorEq, i_shl, *]
  all_goals (try simp only [decide_eq_true_eq, decide_eq_false_iff_not, Bool.not_eq_true, Bool.not_eq_false] at *)
  all_goals (try (have hlg := conf_lg (by assumption); simp only [] at hlg))
  all_goals (try (rw [conf_no (by assumption)]; done))
  all_goals (try (have hsh := conf_shl2 (by assumption); simp only [] at hsh))
  all_goals first
    | (simp; done)
    | exact idxF_any
    | exact idxF_any.symm
    | grind [inR_i64, wrap64, maxLen_eq]

end Go.Sak
namespace Go.Sak
open Go Go.RowKit Go.Proofs
set_option linter.unusedVariables false
set_option linter.unusedSimpArgs false
set_option maxRecDepth 10000
set_option maxHeartbeats 8000000
def F217 : AFn := ⟨42, (.seq (.reg [o1 8 (.mv (.const .slnil)), o1 9 (.mv (ci 0))]) (.seq (.reg [o1 11 (.mv 0), o1 12 (.len 11), o1 13 (.mkslice 69 2 [(.int .i64 0), (.int .i64 0)] 16 12 12), o1 10 (.mv 13)]) (.seq (.reg [o1 14 (.mv 10), o1 15 (.mv 0), o1 16 (.cpy 2 14 15)]) (.seq (.block 0 (.seq (.reg [o1 18 (.mv 1), o1 19 (.bin .lss 18 (ci 0)), o1 20 (.mv 19), o4 21 (.mv 0) 20, o4 22 (.call 93 [21]) 20, o4 23 (.not 22) 20, o1 24 (.pick 20 (.const (.bool true)) 23), o1 17 (.mv 24)]) (.cond 17 (.seq (.reg [o1 25 (.mv 10), o1 8 (.mv 25), o1 9 (.mv (ci 40))]) .ret) (.seq (.reg [o1 27 (.mv 0), o1 28 (.mv 1), o1 29 (.call 249 [27, 28]), o1 30 (.not 29), o1 26 (.mv 30)]) (.cond 26 (.seq (.reg [o1 31 (.mv 10), o1 32 (.mv 2), o1 8 (.mv 31), o1 9 (.mv 32)]) .ret) .skip))))) (.seq (.reg [o1 33 (.mv 3), o1 34 (.mv 10), o1 35 (.mv 1), o1 36 (.mv 0), o1 37 (.len 36), o1 38 (.call 105 [35, 37]), o1 39 (.iaddr 2 34 38), o1 40 (.callv 33 [39])]) (.seq (.reg [o1 41 (.mv 10), o1 8 (.mv 41), o1 9 (.mv (ci 0))]) .ret)))))), [(8, none), (9, none)]⟩
theorem x217 : xf Tryz.prog 217 = some F217 := by kernel_rfl
theorem lf217 : F217.code.lf = true := rfl
def F218 : AFn := ⟨7, (.reg [o1 3 (.mv 0), o1 4 (.ld 1 false 1), o1 5 (.nilchk 3), o1 6 (.faddr 1 5), o2 (.st 1 6 4)]), []⟩
theorem x218 : xf Tryz.prog 218 = some F218 := by kernel_rfl
theorem lf218 : F218.code.lf = true := rfl
def F227 : AFn := ⟨16, (.seq (.seq (.reg [o1 5 (.ld 1 false 1), o1 6 (.bin .gtr 5 (ci 1099511627776))]) (.cond 6 (.seq (.reg [o2 (.st 1 2 (ci 40))]) .ret) .skip)) (.regT [o1 7 (.mv 0), o1 8 (.nilchk 7), o1 9 (.faddr 0 8), o1 10 (.ld 1 false 9), o1 11 (.ld 1 false 3), o1 12 (.len 11), o1 13 (.bin .add 10 12), o1 14 (.nilchk 7), o1 15 (.faddr 0 14), o2 (.st 1 15 13)] [(1, 4), (2, 4), (3, 4), (1, 5), (2, 5), (3, 5)])), []⟩
theorem x227 : xf Tryz.prog 227 = some F227 := by kernel_rfl
theorem lf227 : F227.code.lf = true := rfl
def F139 : AFn := ⟨14, (.seq (.reg [o1 5 (.box 3 2), o1 6 (.mv (.const .slnil)), o1 7 (.mv (ci 0))]) (.seq (.reg [o1 8 (.mv 0), o1 9 (.mv 1), o1 10 (.mkfn (.func 218) [] [5]), o1 11 (.call 217 [8, 9, (ci 30), 10]), o1 12 (.ext 11 0), o1 13 (.ext 11 1), o1 6 (.mv 12), o1 7 (.mv 13)]) .ret)), [(6, none), (7, none)]⟩
theorem x139 : xf Tryz.prog 139 = some F139 := by kernel_rfl
theorem con139 {l : List Slot} {p val : Int} (hl : l.length ≤ 1000000000) : Con Tryz.prog 139 [.slv 2 (l.map encS), .int .i64 p, .int .i64 val] (.tup [.slv 2 ((slotWrite l p val).1.map encS), .int .i64 (slotWrite l p val).2], [], []) := by
  refine mcb_of_vc mix x139 (by simp [F139]) fun hw _ => ?_
  simp only [wfs, AV.wf, inR_i64, List.length_map] at hw
  repeat' with_reducible first | refine gTn_of (fun h => ?_) (fun h => ?_) | refine gT_of (fun h => ?_) (fun h => ?_) | refine caseTn_of (fun h => ?_) (fun h => ?_) | refine caseT_of (fun h => ?_) (fun h => ?_) | refine FN ?_ ?_ ?_ ?_ rfl ?_ | refine kv_ifn ?_ ?_ | refine kv_if ?_ ?_ | refine k_if ?_ ?_ | refine I0 mix x217 lf217 ?_ ?_ ?_ ?_ ?_ | refine I0 mix x218 lf218 ?_ ?_ ?_ ?_ ?_ | refine IA ?_ ?_ ?_ | refine L1 ?_ ?_ | refine L2 ?_ ?_ | refine L3 ?_ ?_ ?_ ?_ | refine L4 ?_ ?_ | refine L5 ?_ ?_ ?_ ?_ ?_ | refine L6 ?_ ?_ ?_ ?_ ?_ | refine P0 (con93 ?_) ?_ ?_ ?_ | refine ACV.of (con93 ?_) ?_ ?_ ?_ | refine ACK.of (con93 ?_) ?_ ?_ | refine P0 (con249 ?_) ?_ ?_ ?_ | refine ACV.of (con249 ?_) ?_ ?_ ?_ | refine ACK.of (con249 ?_) ?_ ?_ | refine P0 (con105) ?_ ?_ ?_ | refine ACV.of (con105) ?_ ?_ ?_ | refine ACK.of (con105) ?_ ?_ | simp -implicitDefEqProofs only [F139, qA, ld_0, ld_pv, st_0, splice, doEqs, qU, List.reduceReplicate, Nat.reduceAdd, Nat.reduceSub, Nat.reduceLeDiff, Nat.reduceEqDiff, Nat.reduceMul, reduceIte, reduceCtorEq, qI, Nat.reduceLT, Nat.reduceBEq, F217, F218, Int.toNat_natCast, rw_slv, doMkslice, *]
  all_goals (have hA := posPlace_lo p l.length; have hB := posPlace_hi p l.length)
  all_goals first
    | (simp at hl ⊢; omega)
    | (refine Wk.of_eq ?_; grind [slotWrite, slotReady, slotCheck, slotAt, inR_i64, wrap64])
    | grind [slotWrite, slotReady, slotCheck, slotAt, inR_i64, wrap64, maxLen_eq]
    | trace_state

def F149 : AFn := ⟨20, (.seq (.reg [o1 2 (.box 26 0), o1 3 (.box 3 1), o1 4 (.mv (.const .slnil)), o1 5 (.mv (ci 0))]) (.seq (.reg [o1 6 (.alloc 49 [(.int .i64 0)]), o2 (.st 1 6 (ci 0))]) (.seq (.reg [o1 10 (.ld 1 false 2), o1 11 (.ld 1 false 3), o1 12 (.mkfn (.func 227) [] [3, 6, 2]), o1 13 (.call 217 [10, 11, (ci 40), 12]), o1 9 (.mv 13), o1 14 (.ext 9 0), o1 15 (.ext 9 1), o1 7 (.mv 14), o1 8 (.mv 15)]) (.seq (.reg [o1 16 (.mv 7), o1 17 (.ld 1 false 6), o1 18 (.mv 8), o1 19 (.mx 17 18), o1 4 (.mv 16), o1 5 (.mv 19)]) .ret)))), [(4, none), (5, none)]⟩
theorem x149 : xf Tryz.prog 149 = some F149 := by kernel_rfl
theorem con149 {l : List Slot} {p : Int} (hl : l.length ≤ 1000000000) : Con Tryz.prog 149 [.slv 2 (l.map encS), .int .i64 p] (.tup [.slv 2 ((slotRelease l p).1.map encS), .int .i64 (slotRelease l p).2], [], []) := by
  refine mcb_of_vc mix x149 (by simp [F149]) fun hw _ => ?_
  simp only [wfs, AV.wf, inR_i64, List.length_map] at hw
  repeat' with_reducible first | refine gTn_of (fun h => ?_) (fun h => ?_) | refine gT_of (fun h => ?_) (fun h => ?_) | refine caseTn_of (fun h => ?_) (fun h => ?_) | refine caseT_of (fun h => ?_) (fun h => ?_) | refine FN ?_ ?_ ?_ ?_ rfl ?_ | refine kv_ifn ?_ ?_ | refine kv_if ?_ ?_ | refine k_if ?_ ?_ | refine I0 mix x217 lf217 ?_ ?_ ?_ ?_ ?_ | refine I0 mix x227 lf227 ?_ ?_ ?_ ?_ ?_ | refine IA ?_ ?_ ?_ | refine L1 ?_ ?_ | refine L2 ?_ ?_ | refine L3 ?_ ?_ ?_ ?_ | refine L4 ?_ ?_ | refine L5 ?_ ?_ ?_ ?_ ?_ | refine L6 ?_ ?_ ?_ ?_ ?_ | refine P0 (con93 ?_) ?_ ?_ ?_ | refine ACV.of (con93 ?_) ?_ ?_ ?_ | refine ACK.of (con93 ?_) ?_ ?_ | refine P0 (con249 ?_) ?_ ?_ ?_ | refine ACV.of (con249 ?_) ?_ ?_ ?_ | refine ACK.of (con249 ?_) ?_ ?_ | refine P0 (con105) ?_ ?_ ?_ | refine ACV.of (con105) ?_ ?_ ?_ | refine ACK.of (con105) ?_ ?_ | simp -implicitDefEqProofs only [F149, qA, ld_0, ld_pv, st_0, splice, doEqs, qU, List.reduceReplicate, Nat.reduceAdd, Nat.reduceSub, Nat.reduceLeDiff, Nat.reduceEqDiff, Nat.reduceMul, reduceIte, reduceCtorEq, qI, Nat.reduceLT, Nat.reduceBEq, F217, F227, Int.toNat_natCast, rw_slv, doMkslice, encS, *]
  all_goals (have hA := posPlace_lo p l.length; have hB := posPlace_hi p l.length)
  all_goals first
    | (simp at hl ⊢; omega)
    | (refine Wk.of_eq ?_; grind [slotRelease, slotReady, slotCheck, slotAt, inR_i64, wrap64])
    | grind [slotRelease, slotReady, slotCheck, slotAt, inR_i64, wrap64, maxLen_eq]
    | trace_state

end Go.Sak
namespace Go.Sak
open Go Go.RowKit Go.Proofs
set_option linter.unusedVariables false
set_option linter.unusedSimpArgs false
set_option maxRecDepth 10000
set_option maxHeartbeats 8000000
def F146 : AFn := ⟨21, (.seq (.reg [o1 4 (.mv (.const .slnil)), o1 5 (.mv (ci 0))]) (.seq (.reg [o1 8 (.mv 0), o1 9 (.call 183 [8]), o1 6 (.mv 9)]) (.seq (.reg [o1 10 (.mv 0), o1 11 (.mv 1), o1 12 (.call 214 [10, 11]), o1 7 (.mv 12)]) (.seq (.seq (.reg [o1 13 (.mv 7), o1 14 (.bin .lss 13 (ci 0))]) (.cond 14 (.seq (.reg [o1 15 (.mv 6), o1 4 (.mv 15), o1 5 (.mv (ci 40))]) .ret) .skip)) (.seq (.reg [o1 16 (.mv 6), o1 17 (.mv 7), o1 18 (.mv 7), o1 19 (.bin .add 18 (ci 1)), o1 20 (.call 226 [16, 17, 19]), o1 4 (.mv 20), o1 5 (.mv (ci 0))]) .ret))))), [(4, none), (5, none)]⟩
theorem x146 : xf Tryz.prog 146 = some F146 := by kernel_rfl
theorem idxF_lt {α : Type} {p : α → Bool} {l : List α} : idxF p l < l.length := by
  unfold idxF
  split
  · rename_i i hi; have := (List.findIdx?_eq_some_iff_getElem.1 hi).1; omega
  · omega
theorem place_nil (id : Int) : lPlace [] id = -1 := by simp [lPlace, lCheck, lU, idxF]
theorem con146 {l : List Int} {id : Int} (hl : l.length ≤ 100000000) : Con Tryz.prog 146 [.slv 1 (l.map encI), .int .i64 id] (.tup [.slv 1 ((lLeave l id).1.map encI), .int .i64 (lLeave l id).2], [], []) := by
  by_cases hne : l = []
  · subst hne
    refine con_nilm ?_ ?_
    all_goals refine mcb_of_vc mix x146 (by simp [F146]) fun hw _ => ?_
    repeat' with_reducible first | refine gTn_of (fun h => ?_) (fun h => ?_) | refine gT_of (fun h => ?_) (fun h => ?_) | refine caseTn_of (fun h => ?_) (fun h => ?_) | refine caseT_of (fun h => ?_) (fun h => ?_) | refine fin_alb ?_ ?_ ?_ rfl ?_ | refine kv_ifn ?_ ?_ | refine kv_if ?_ ?_ | refine k_if ?_ ?_ | refine P0 con183n ?_ ?_ ?_ | refine N1 con183e ?_ ?_ | refine N1 (con183g hne ?_) ?_ ?_ | refine P0 (con214 ?_) ?_ ?_ ?_ | refine P0 (con_w0 (enc := encI) (con214 (l := []) ?_)) ?_ ?_ ?_ | refine P0 (con_we (enc := encI) (con214 (l := []) ?_)) ?_ ?_ ?_ | refine ACV.of (con214 ?_) ?_ ?_ ?_ | refine AC.own1 (conDel2 (l := []) (T := 3) ?_ ?_ ?_) ?_ ?_ (by simp -implicitDefEqProofs only [m_get, Nat.reduceEqDiff, reduceIte, if_true, if_false]; first | done | exact rfl) ?_ ?_ ?_ ?_ ?_ | simp -implicitDefEqProofs only [F146, qA, ld_0, ld_pv, st_0, splice, doEqs, qU, List.reduceReplicate, Nat.reduceAdd, Nat.reduceSub, Nat.reduceLeDiff, Nat.reduceEqDiff, Nat.reduceMul, reduceIte, reduceCtorEq, qI, Nat.reduceLT, Nat.reduceBEq, up_s, doBslice, Nat.zero_le, place_nil, *]
    all_goals first
      | (simp; done)
      | (simp at hl ⊢; omega)
      | (refine Wk.tup ⟨?_, fun _ => rfl, Wk.refl _, fun _ => rfl, trivial⟩
         first
          | exact Wk.nil _
          | exact Wk.refl _
          | (refine Wk.of_eq ?_; simp [lLeave, lPlace]; done))
      | (refine Wk.of_eq ?_; grind [lLeave])
      | (have hi := idxF_lt (p := fun y => decide (id = y)) (l := ([] : List Int)); grind [lPlace, wrap64, maxLen_eq, inR_i64])
      | (refine Wk.of_eq ?_
         have hi := idxF_lt (p := fun y => decide (id = y)) (l := ([] : List Int))
         have hp : 0 ≤ lPlace ([] : List Int) id := by grind
         have hq : lPlace ([] : List Int) id < ([] : List Int).length := by grind [lPlace]
         have hlen : (([] : List Int).eraseIdx (lPlace ([] : List Int) id).toNat).length = ([] : List Int).length - 1 := by rw [List.length_eraseIdx, if_pos (by omega)]
         simp [lLeave, hlen, Int.not_lt.2 hp, List.take_of_length_le, Nat.le_refl]; done)
      | trace_state
  · refine mcb_of_vc mix x146 (by simp [F146]) fun hw _ => ?_
    simp only [wfs, AV.wf, inR_i64, List.length_map] at hw
    repeat' with_reducible first | refine gTn_of (fun h => ?_) (fun h => ?_) | refine gT_of (fun h => ?_) (fun h => ?_) | refine caseTn_of (fun h => ?_) (fun h => ?_) | refine caseT_of (fun h => ?_) (fun h => ?_) | refine fin_alb ?_ ?_ ?_ rfl ?_ | refine kv_ifn ?_ ?_ | refine kv_if ?_ ?_ | refine k_if ?_ ?_ | refine P0 con183n ?_ ?_ ?_ | refine N1 con183e ?_ ?_ | refine N1 (con183g hne ?_) ?_ ?_ | refine P0 (con214 ?_) ?_ ?_ ?_ | refine P0 (con_w0 (enc := encI) (con214 (l := []) ?_)) ?_ ?_ ?_ | refine P0 (con_we (enc := encI) (con214 (l := []) ?_)) ?_ ?_ ?_ | refine ACV.of (con214 ?_) ?_ ?_ ?_ | refine AC.own1 (conDel2 (l := l) (T := 3) ?_ ?_ ?_) ?_ ?_ (by simp -implicitDefEqProofs only [m_get, Nat.reduceEqDiff, reduceIte, if_true, if_false]; first | done | exact rfl) ?_ ?_ ?_ ?_ ?_ | simp -implicitDefEqProofs only [F146, qA, ld_0, ld_pv, st_0, splice, doEqs, qU, List.reduceReplicate, Nat.reduceAdd, Nat.reduceSub, Nat.reduceLeDiff, Nat.reduceEqDiff, Nat.reduceMul, reduceIte, reduceCtorEq, qI, Nat.reduceLT, Nat.reduceBEq, up_s, doBslice, Nat.zero_le, *]
    all_goals first
      | (simp; done)
      | (simp at hl ⊢; omega)
      | (refine Wk.tup ⟨?_, fun _ => rfl, Wk.refl _, fun _ => rfl, trivial⟩
         first
          | exact Wk.nil _
          | exact Wk.refl _
          | (refine Wk.of_eq ?_; simp [lLeave, lPlace]; done))
      | (refine Wk.of_eq ?_; grind [lLeave])
      | (have hi := idxF_lt (p := fun y => decide (id = y)) (l := l); grind [lPlace, wrap64, maxLen_eq, inR_i64])
      | (refine Wk.of_eq ?_
         have hi := idxF_lt (p := fun y => decide (id = y)) (l := l)
         have hp : 0 ≤ lPlace l id := by grind
         have hq : lPlace l id < l.length := by grind [lPlace]
         have hlen : (l.eraseIdx (lPlace l id).toNat).length = l.length - 1 := by rw [List.length_eraseIdx, if_pos (by omega)]
         simp [lLeave, hlen, Int.not_lt.2 hp, List.take_of_length_le, Nat.le_refl]; done)
      | trace_state

end Go.Sak
