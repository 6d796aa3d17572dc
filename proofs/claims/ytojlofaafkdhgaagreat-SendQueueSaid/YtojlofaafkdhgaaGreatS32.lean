/- Part S32 of the proofs about the program: K32. Conditions: none. -/
import Derived.Test.YtojlofaafkdhgaaGreatS31
import Derived.Test.YtojlofaafkdhgaaGreatS03
import Derived.Test.YtojlofaafkdhgaaGreatS21
import Derived.Test.YtojlofaafkdhgaaGreatS04
import Derived.Test.YtojlofaafkdhgaaGreatProg
import Derived.KernelRfl
namespace Go.Sak
open Go Go.RowKit Go.Proofs
set_option linter.unusedVariables false
set_option linter.unusedSimpArgs false
set_option maxRecDepth 10000
set_option maxHeartbeats 8000000
def few (s : State) : Bool := decide (s.slots.length ≤ 100) && decide (s.threads.length ≤ 100) && decide (s.sends.length ≤ 100) && decide (s.recvs.length ≤ 100) && decide (s.full.ln.length ≤ 100) && decide (s.empty.ln.length ≤ 100) && decide (s.log.length ≤ 200)
def sInside (pc : Int) : Bool := decide (pc ≥ 1) && decide (pc < 12)
def sNear (pc : Int) : Int := if pc = 4 then 2 else if pc = 6 then 1 else 0
def F28 : AFn := ⟨9, (.seq (.reg [o1 2 (.mv (.const (.bool false)))]) (.seq (.reg [o1 3 (.mv 0), o1 4 (.bin .geq 3 (ci 1)), o1 5 (.mv 4), o3 6 (.mv 0) 5, o3 7 (.bin .lss 6 (ci 12)) 5, o1 8 (.pick 5 7 (.const (.bool false))), o1 2 (.mv 8)]) .ret)), [(2, none)]⟩
theorem x28 : xf Tryz.prog 28 = some F28 := by kernel_rfl
theorem con28 {pc : Int}  : Con Tryz.prog 28 [.int .i64 pc] ((.bool (sInside pc)), [], []) := by
  refine mcb_of_vc mix x28 (by simp [F28]) fun hw _ => ?_
  simp only [wfs, AV.wf, inR_i64] at hw
  repeat' with_reducible first | refine gTn_of (fun h => ?_) (fun h => ?_) | refine gT_of (fun h => ?_) (fun h => ?_) | refine caseTn_of (fun h => ?_) (fun h => ?_) | refine caseT_of (fun h => ?_) (fun h => ?_) | refine fin_pure ?_ ?_ ?_ ?_ | refine kv_ifn ?_ ?_ | refine kv_if ?_ ?_ | refine k_if ?_ ?_ | simp -implicitDefEqProofs only [F28, qA, doLd, doSt, splice, doEqs, qU, List.reduceReplicate, Nat.reduceAdd, Nat.reduceSub, Nat.reduceLeDiff, Nat.reduceEqDiff, Nat.reduceMul, reduceIte, reduceCtorEq, *]
  all_goals first
    | (simp; done)
    | exact idxF_any
    | exact idxF_any.symm
    | grind [inR_i64, wrap64, maxLen_eq, sInside]

def F29 : AFn := ⟨8, (.seq (.reg [o1 2 (.mv (ci 0))]) (.seq (.seq (.reg [o1 3 (.mv 0)]) (.block 0 (.seq (.reg [o1 5 (.bin .eql 3 (ci 4)), o1 4 (.mv 5)]) (.cond 4 (.seq (.reg [o1 2 (.mv (ci 2))]) .ret) (.seq (.reg [o1 7 (.bin .eql 3 (ci 6)), o1 6 (.mv 7)]) (.cond 6 (.seq (.reg [o1 2 (.mv (ci 1))]) .ret) .skip)))))) (.seq (.reg [o1 2 (.mv (ci 0))]) .ret))), [(2, none)]⟩
theorem x29 : xf Tryz.prog 29 = some F29 := by kernel_rfl
theorem con29 {pc : Int}  : Con Tryz.prog 29 [.int .i64 pc] ((.int .i64 (sNear pc)), [], []) := by
  refine mcb_of_vc mix x29 (by simp [F29]) fun hw _ => ?_
  simp only [wfs, AV.wf, inR_i64] at hw
  repeat' with_reducible first | refine gTn_of (fun h => ?_) (fun h => ?_) | refine gT_of (fun h => ?_) (fun h => ?_) | refine caseTn_of (fun h => ?_) (fun h => ?_) | refine caseT_of (fun h => ?_) (fun h => ?_) | refine fin_pure ?_ ?_ ?_ ?_ | refine kv_ifn ?_ ?_ | refine kv_if ?_ ?_ | refine k_if ?_ ?_ | simp -implicitDefEqProofs only [F29, qA, doLd, doSt, splice, doEqs, qU, List.reduceReplicate, Nat.reduceAdd, Nat.reduceSub, Nat.reduceLeDiff, Nat.reduceEqDiff, Nat.reduceMul, reduceIte, reduceCtorEq, *]
  all_goals first
    | (simp; done)
    | exact idxF_any
    | exact idxF_any.symm
    | grind [inR_i64, wrap64, maxLen_eq, sNear]

def F22 : AFn := ⟨45, (.seq (.reg [o1 1 (.box 33 0), o1 2 (.mv (.const (.bool false)))]) (.seq (.reg [o1 3 (.faddr 10 1), o1 4 (.ld 1 false 3), o1 5 (.len 4), o1 6 (.bin .leq 5 (ci 100)), o1 7 (.mv 6), o3 8 (.faddr 18 1) 7, o3 9 (.ld 1 false 8) 7, o3 10 (.len 9) 7, o3 11 (.bin .leq 10 (ci 100)) 7, o1 12 (.pick 7 11 (.const (.bool false))), o1 13 (.mv 12), o3 14 (.faddr 11 1) 13, o3 15 (.ld 1 false 14) 13, o3 16 (.len 15) 13, o3 17 (.bin .leq 16 (ci 100)) 13, o1 18 (.pick 13 17 (.const (.bool false))), o1 19 (.mv 18), o3 20 (.faddr 12 1) 19, o3 21 (.ld 1 false 20) 19, o3 22 (.len 21) 19, o3 23 (.bin .leq 22 (ci 100)) 19, o1 24 (.pick 19 23 (.const (.bool false))), o1 25 (.mv 24), o3 26 (.faddr 13 1) 25, o3 27 (.faddr 1 26) 25, o3 28 (.ld 1 false 27) 25, o3 29 (.len 28) 25, o3 30 (.bin .leq 29 (ci 100)) 25, o1 31 (.pick 25 30 (.const (.bool false))), o1 32 (.mv 31), o3 33 (.faddr 15 1) 32, o3 34 (.faddr 1 33) 32, o3 35 (.ld 1 false 34) 32, o3 36 (.len 35) 32, o3 37 (.bin .leq 36 (ci 100)) 32, o1 38 (.pick 32 37 (.const (.bool false))), o1 39 (.mv 38), o3 40 (.faddr 19 1) 39, o3 41 (.ld 1 false 40) 39, o3 42 (.len 41) 39, o3 43 (.bin .leq 42 (ci 200)) 39, o1 44 (.pick 39 43 (.const (.bool false))), o1 2 (.mv 44)]) .ret)), [(2, none)]⟩
theorem x22 : xf Tryz.prog 22 = some F22 := by kernel_rfl
theorem con22 {s_lg s_th : Int} {s_pol s_wt : Int} {s_spin s_yld : Int} {s_single : Bool} {s_h s_t s_m : Int} {s_slots : List Slot} {s_sends s_recvs : List Int} {s_fe : Int} {s_fl : List Int} {s_ee : Int} {s_el : List Int} {s_now : Int} {s_thr : List Thread} {s_log : List Entry} : Con Tryz.prog 22 [.agg [.int .i64 s_lg, .int .i64 s_th, .int .i64 s_pol, .int .i64 s_wt, .int .i64 s_spin, .int .i64 s_yld, .bool s_single, .int .i64 s_h, .int .i64 s_t, .int .i64 s_m, .slv 2 (s_slots.map encS), .slv 1 (s_sends.map encI), .slv 1 (s_recvs.map encI), .int .i64 s_fe, .slv 1 (s_fl.map encI), .int .i64 s_ee, .slv 1 (s_el.map encI), .int .i64 s_now, .slv 11 (s_thr.map encT), .slv 5 (s_log.map encE)]] (.bool (few (State.mk (Config.mk s_lg s_th s_pol s_wt s_spin s_yld s_single) (Word.mk s_h s_t s_m) s_slots s_sends s_recvs (Event.mk s_fe s_fl) (Event.mk s_ee s_el) s_now s_thr s_log)), [], []) := by
  refine mcb_of_vc mix x22 (by simp [F22]) fun hw _ => ?_
  simp only [wfs, AV.wf, inR_i64, List.length_map] at hw
  repeat' with_reducible first | refine gTn_of (fun h => ?_) (fun h => ?_) | refine gT_of (fun h => ?_) (fun h => ?_) | refine caseTn_of (fun h => ?_) (fun h => ?_) | refine caseT_of (fun h => ?_) (fun h => ?_) | refine fin_pure ?_ ?_ ?_ ?_ | refine kv_ifn ?_ ?_ | refine kv_if ?_ ?_ | refine k_if ?_ ?_ | simp -implicitDefEqProofs only [F22, qA, ld_0, ld_pv, st_0, splice, doEqs, qU, List.reduceReplicate, Nat.reduceAdd, Nat.reduceSub, Nat.reduceLeDiff, Nat.reduceEqDiff, Nat.reduceMul, reduceIte, reduceCtorEq, qI, Nat.reduceLT, Nat.reduceBEq, doBslice, *]
  all_goals first
    | omega
    | (simp; done)
    | grind [few]
    | trace_state

end Go.Sak
