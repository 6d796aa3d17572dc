/- Part S86 of the proofs about the program: K111, K112. Conditions: none. -/
import Derived.Test.YtccdhjhffebpoaaGreatS85
import Derived.Test.YtccdhjhffebpoaaGreatS47
import Derived.Test.YtccdhjhffebpoaaGreatS22
import Derived.Test.YtccdhjhffebpoaaGreatS04
import Derived.Test.YtccdhjhffebpoaaGreatProg
import Derived.KernelRfl
namespace Go.Sak
open Go Go.RowKit Go.Proofs
set_option linter.unusedVariables false
set_option linter.unusedSimpArgs false
set_option maxRecDepth 10000
set_option maxHeartbeats 8000000
theorem con176s {s:State} {id kind res got:Int} (h:s.threads.length≤100000000) (h7:s.log.length≤100000000):Con Tryz.prog 176 [.agg (encZ s),.int .i64 id,.int .i64 kind,.int .i64 res,.int .i64 got] (.agg (encZ (fabTell s id kind res got)),[],[]):=con176 h h7
theorem con78s {s:State} {id:Int} (h:s.threads.length≤100000000):Con Tryz.prog 78 [.agg (encZ s),.int .i64 id] (.agg (encZ (fabWake s id)),[],[]):=con78 h
theorem runs_st {t:Thread} (h:tCheck t=true):decide (tRuns t=0)=decide (t.st=1):=by
  simp only [tCheck,within,Bool.and_eq_true,decide_eq_true_eq] at h
  refine decide_eq_decide.2 ?_
  unfold tRuns
  split
  · simp only [show ((121:Int)=0)=False from by simp,false_iff]; omega
  · split
    · simp only [show ((122:Int)=0)=False from by simp,false_iff]; omega
    · simp only [true_iff]; omega
theorem runs_iff {s:State} {id:Int} (h:fabIs s id=true):decide (tRuns (s.threads.getD id.toNat default)=0)=decide ((s.threads.getD id.toNat default).st=1):=by
  have hl:=(lt_of_is h).2.2
  simp only [fabIs,fabCheck,Bool.and_eq_true,Bool.not_eq_true',List.any_eq_false] at h
  have ht:=h.1.1.2 _ (getD_mem (d:=default) hl)
  simp only [Bool.not_eq_true',Bool.not_eq_false] at ht
  exact runs_st ht
def F70:AFn:=⟨19,(.seq (.reg [o1 3 (.box 33 0),o1 6 (.alloc 33 [(.int .i64 0),(.int .i64 0),(.int .i64 0),(.int .i64 0),(.int .i64 0),(.int .i64 0),(.bool false),(.int .i64 0),(.int .i64 0),(.int .i64 0),.slnil,.slnil,.slnil,(.int .i64 0),.slnil,(.int .i64 0),.slnil,(.int .i64 0),.slnil,.slnil])]) (.seq (.reg [o1 8 (.faddr 18 3),o1 9 (.ld 1 false 8),o1 10 (.mv 1),o1 11 (.iaddr 11 9 10),o1 12 (.ld 11 true 11),o1 7 (.alloc 48 [(.int .i64 0),(.int .i64 0),(.int .i64 0),(.int .i64 0),(.int .i64 0),(.int .i64 0),(.int .i64 0),(.int .i64 0),(.bool false),(.int .i64 0),(.int .i64 0)]),o2 (.st 11 7 12)]) (.seq (.reg [o1 13 (.mv 2),o1 14 (.faddr 4 7),o2 (.st 1 14 13)]) (.seq (.reg [o1 15 (.ld 20 true 3),o1 16 (.mv 1),o1 17 (.ld 11 true 7),o1 18 (.call 76 [15,16,17]),o2 (.st 20 6 18)]) .ret)))),[(6,some (20,true))]⟩
theorem x70:xf Tryz.prog 70=some F70:=by kernel_rfl
theorem con70 {s:State} {id pc:Int} (h:s.threads.length≤100000000) (h0:0≤id) (hlt:id<s.threads.length):Con Tryz.prog 70 [.agg (encZ s),.int .i64 id,.int .i64 pc] (.agg (encZ (rAt s id pc)),[],[]):=by
  refine mcb_of_vc mix x70 (by simp [F70]) fun hw _=>?_
  clear hw
  repeat' with_reducible first|refine gTn_of (fun h=>?_) (fun h=>?_)|refine gT_of (fun h=>?_) (fun h=>?_)|refine caseTn_of (fun h=>?_) (fun h=>?_)|refine caseT_of (fun h=>?_) (fun h=>?_)|refine FN ?_ ?_ ?_ ?_ rfl ?_|refine kv_ifn ?_ ?_|refine kv_if ?_ ?_|refine k_if ?_ ?_|refine IA ?_ ?_ ?_|refine L1 ?_ ?_|refine L2 ?_ ?_|refine L3 ?_ ?_ ?_ ?_|refine L4 ?_ ?_|refine L5 ?_ ?_ ?_ ?_ ?_|refine L6 ?_ ?_ ?_ ?_ ?_|refine ia_of (d:=default) ?_ ?_|refine ap_of (rw_slv _ _ _) (by simp -implicitDefEqProofs only [m_get,Nat.reduceEqDiff,reduceIte,if_true,if_false]; first|done|exact rfl) ?_ ?_ ?_ ?_|refine ap_of (rw_slm _ _ _ _ _ _ (by simp -implicitDefEqProofs only [m_get,Nat.reduceEqDiff,reduceIte,if_true,if_false]; first|done|exact rfl) ?_) (by simp -implicitDefEqProofs only [m_get,Nat.reduceEqDiff,reduceIte,if_true,if_false]; first|done|exact rfl) ?_ ?_ ?_ ?_|refine AC.p0 (con76s ?_ ?_ ?_) ?_ (by simp -implicitDefEqProofs only [qU,pure_encZ]; done) ?_ ?_|simp -implicitDefEqProofs only [F70,qA,ld_0,ld_pv,st_0,splice,doEqs,qU,List.reduceReplicate,Nat.reduceAdd,Nat.reduceSub,Nat.reduceLeDiff,Nat.reduceEqDiff,Nat.reduceMul,reduceIte,reduceCtorEq,qI,Nat.reduceLT,Nat.reduceBEq,up_s,Int.toNat_natCast,encT,qZ,qC,Int.natCast_zero, *]
  all_goals first
    | omega
    | exact Wk.refl _
    | exact ⟨h0,hlt⟩
    | exact h0
    | exact hlt
    | trace_state

def F162:AFn:=⟨23,(.seq (.reg [o1 4 (.box 33 0),o1 8 (.alloc 33 [(.int .i64 0),(.int .i64 0),(.int .i64 0),(.int .i64 0),(.int .i64 0),(.int .i64 0),(.bool false),(.int .i64 0),(.int .i64 0),(.int .i64 0),.slnil,.slnil,.slnil,(.int .i64 0),.slnil,(.int .i64 0),.slnil,(.int .i64 0),.slnil,.slnil])]) (.seq (.reg [o1 10 (.faddr 18 4),o1 11 (.ld 1 false 10),o1 12 (.mv 1),o1 13 (.iaddr 11 11 12),o1 14 (.ld 11 true 13),o1 9 (.alloc 48 [(.int .i64 0),(.int .i64 0),(.int .i64 0),(.int .i64 0),(.int .i64 0),(.int .i64 0),(.int .i64 0),(.int .i64 0),(.bool false),(.int .i64 0),(.int .i64 0)]),o2 (.st 11 9 14)]) (.seq (.reg [o1 15 (.mv 2),o1 16 (.faddr 5 9),o2 (.st 1 16 15)]) (.seq (.reg [o1 17 (.mv 3),o1 18 (.faddr 4 9),o2 (.st 1 18 17)]) (.seq (.reg [o1 19 (.ld 20 true 4),o1 20 (.mv 1),o1 21 (.ld 11 true 9),o1 22 (.call 76 [19,20,21]),o2 (.st 20 8 22)]) .ret))))),[(8,some (20,true))]⟩
theorem x162:xf Tryz.prog 162=some F162:=by kernel_rfl
theorem con162 {s:State} {id reg pc:Int} (h:s.threads.length≤100000000) (h0:0≤id) (hlt:id<s.threads.length):Con Tryz.prog 162 [.agg (encZ s),.int .i64 id,.int .i64 reg,.int .i64 pc] (.agg (encZ (rAt (put1 s id (setReg (me s id) reg)) id pc)),[],[]):=by
  refine mcb_of_vc mix x162 (by simp [F162]) fun hw _=>?_
  clear hw
  repeat' with_reducible first|refine gTn_of (fun h=>?_) (fun h=>?_)|refine gT_of (fun h=>?_) (fun h=>?_)|refine caseTn_of (fun h=>?_) (fun h=>?_)|refine caseT_of (fun h=>?_) (fun h=>?_)|refine FN ?_ ?_ ?_ ?_ rfl ?_|refine kv_ifn ?_ ?_|refine kv_if ?_ ?_|refine k_if ?_ ?_|refine IA ?_ ?_ ?_|refine L1 ?_ ?_|refine L2 ?_ ?_|refine L3 ?_ ?_ ?_ ?_|refine L4 ?_ ?_|refine L5 ?_ ?_ ?_ ?_ ?_|refine L6 ?_ ?_ ?_ ?_ ?_|refine ia_of (d:=default) ?_ ?_|refine ap_of (rw_slv _ _ _) (by simp -implicitDefEqProofs only [m_get,Nat.reduceEqDiff,reduceIte,if_true,if_false]; first|done|exact rfl) ?_ ?_ ?_ ?_|refine ap_of (rw_slm _ _ _ _ _ _ (by simp -implicitDefEqProofs only [m_get,Nat.reduceEqDiff,reduceIte,if_true,if_false]; first|done|exact rfl) ?_) (by simp -implicitDefEqProofs only [m_get,Nat.reduceEqDiff,reduceIte,if_true,if_false]; first|done|exact rfl) ?_ ?_ ?_ ?_|refine AC.p0 (con76s ?_ ?_ ?_) ?_ (by simp -implicitDefEqProofs only [qU,pure_encZ]; done) ?_ ?_|simp -implicitDefEqProofs only [F162,qA,ld_0,ld_pv,st_0,splice,doEqs,qU,List.reduceReplicate,Nat.reduceAdd,Nat.reduceSub,Nat.reduceLeDiff,Nat.reduceEqDiff,Nat.reduceMul,reduceIte,reduceCtorEq,qI,Nat.reduceLT,Nat.reduceBEq,up_s,Int.toNat_natCast,encT,qZ,qC,Int.natCast_zero, *]
  all_goals first
    | omega
    | exact Wk.refl _
    | exact ⟨h0,hlt⟩
    | exact h0
    | exact hlt
    | (refine Wk.of_eq ?_
       have hid:id.toNat<s.threads.length:=by omega
       simp only [rAt,put1,me,getD_set_same hid,set_set]
       rfl)
    | trace_state

def F161:AFn:=⟨22,(.seq (.reg [o1 2 (.box 33 0),o1 4 (.alloc 33 [(.int .i64 0),(.int .i64 0),(.int .i64 0),(.int .i64 0),(.int .i64 0),(.int .i64 0),(.bool false),(.int .i64 0),(.int .i64 0),(.int .i64 0),.slnil,.slnil,.slnil,(.int .i64 0),.slnil,(.int .i64 0),.slnil,(.int .i64 0),.slnil,.slnil])]) (.seq (.reg [o1 6 (.faddr 18 2),o1 7 (.ld 1 false 6),o1 8 (.mv 1),o1 9 (.iaddr 11 7 8),o1 10 (.ld 11 true 9),o1 5 (.alloc 48 [(.int .i64 0),(.int .i64 0),(.int .i64 0),(.int .i64 0),(.int .i64 0),(.int .i64 0),(.int .i64 0),(.int .i64 0),(.bool false),(.int .i64 0),(.int .i64 0)]),o2 (.st 11 5 10)]) (.seq (.seq (.reg [o1 11 (.faddr 7 5),o1 12 (.ld 1 false 11),o1 13 (.bin .lss 12 (ci 1099511627776))]) (.cond 13 (.reg [o1 14 (.faddr 7 5),o1 15 (.ld 1 false 14),o1 16 (.bin .add 15 (ci 1)),o1 17 (.faddr 7 5),o2 (.st 1 17 16)]) .skip)) (.seq (.reg [o1 18 (.ld 20 true 2),o1 19 (.mv 1),o1 20 (.ld 11 true 5),o1 21 (.call 76 [18,19,20]),o2 (.st 20 4 21)]) .ret)))),[(4,some (20,true))]⟩
theorem x161:xf Tryz.prog 161=some F161:=by kernel_rfl
theorem con161 {s:State} {id:Int} (h:s.threads.length≤100000000) (h0:0≤id) (hlt:id<s.threads.length) (ht:0≤(me s id).tries∧(me s id).tries≤1099511627776):Con Tryz.prog 161 [.agg (encZ s),.int .i64 id] (.agg (encZ (rOn s id)),[],[]):=by
  unfold me at ht
  refine mcb_of_vc mix x161 (by simp [F161]) fun hw _=>?_
  clear hw
  repeat' with_reducible first|refine gTn_of (fun h=>?_) (fun h=>?_)|refine gT_of (fun h=>?_) (fun h=>?_)|refine caseTn_of (fun h=>?_) (fun h=>?_)|refine caseT_of (fun h=>?_) (fun h=>?_)|refine FN ?_ ?_ ?_ ?_ rfl ?_|refine kv_ifn ?_ ?_|refine kv_if ?_ ?_|refine k_if ?_ ?_|refine IA ?_ ?_ ?_|refine L1 ?_ ?_|refine L2 ?_ ?_|refine L3 ?_ ?_ ?_ ?_|refine L4 ?_ ?_|refine L5 ?_ ?_ ?_ ?_ ?_|refine L6 ?_ ?_ ?_ ?_ ?_|refine ia_of (d:=default) ?_ ?_|refine ap_of (rw_slv _ _ _) (by simp -implicitDefEqProofs only [m_get,Nat.reduceEqDiff,reduceIte,if_true,if_false]; first|done|exact rfl) ?_ ?_ ?_ ?_|refine ap_of (rw_slm _ _ _ _ _ _ (by simp -implicitDefEqProofs only [m_get,Nat.reduceEqDiff,reduceIte,if_true,if_false]; first|done|exact rfl) ?_) (by simp -implicitDefEqProofs only [m_get,Nat.reduceEqDiff,reduceIte,if_true,if_false]; first|done|exact rfl) ?_ ?_ ?_ ?_|refine AC.p0 (con76s ?_ ?_ ?_) ?_ (by simp -implicitDefEqProofs only [qU,pure_encZ]; done) ?_ ?_|simp -implicitDefEqProofs only [F161,qA,ld_0,ld_pv,st_0,splice,doEqs,qU,List.reduceReplicate,Nat.reduceAdd,Nat.reduceSub,Nat.reduceLeDiff,Nat.reduceEqDiff,Nat.reduceMul,reduceIte,reduceCtorEq,qI,Nat.reduceLT,Nat.reduceBEq,up_s,Int.toNat_natCast,encT,qZ,qC,Int.natCast_zero, *]
  all_goals first
    | omega
    | exact Wk.refl _
    | exact ⟨h0,hlt⟩
    | exact h0
    | exact hlt
    | (have h9:=of_decide_eq_true (by assumption:decide ((s.threads.getD id.toNat default).tries<1099511627776)=true)
       refine Wk.of_eq ?_
       rw [wrap64 (by omega) (by omega)]
       unfold rOn me
       rw [show min ((s.threads.getD id.toNat default).tries+1) 1099511627776=(s.threads.getD id.toNat default).tries+1 from by omega]
       rfl)
    | (have h9:=of_decide_eq_false (by assumption:decide ((s.threads.getD id.toNat default).tries<1099511627776)=false)
       refine Wk.of_eq ?_
       unfold rOn me
       rw [show min ((s.threads.getD id.toNat default).tries+1) 1099511627776=(s.threads.getD id.toNat default).tries from by omega]
       rfl)
    | trace_state

def F160:AFn:=⟨25,(.seq (.reg [o1 5 (.box 33 0),o1 10 (.alloc 33 [(.int .i64 0),(.int .i64 0),(.int .i64 0),(.int .i64 0),(.int .i64 0),(.int .i64 0),(.bool false),(.int .i64 0),(.int .i64 0),(.int .i64 0),.slnil,.slnil,.slnil,(.int .i64 0),.slnil,(.int .i64 0),.slnil,(.int .i64 0),.slnil,.slnil])]) (.seq (.regT [o1 11 (.ld 20 true 5),o1 12 (.mv 1),o1 13 (.faddr 18 5),o1 14 (.ld 1 false 13),o1 15 (.mv 1),o1 16 (.iaddr 11 14 15),o1 17 (.faddr 1 16),o1 18 (.ld 1 false 17),o1 19 (.mv 2),o1 20 (.mv 3),o1 21 (.call 176 [11,12,18,19,20]),o1 22 (.mv 1),o1 23 (.mv 4),o1 24 (.call 70 [21,22,23]),o2 (.st 20 10 24)] [(0,2),(0,3),(0,5),(0,6),(0,7)]) .ret)),[(10,some (20,true))]⟩
theorem x160:xf Tryz.prog 160=some F160:=by kernel_rfl
theorem con160 {s:State} {id res got pc:Int} (h:s.threads.length≤100000000) (h7:s.log.length≤100000000) (h0:0≤id) (hlt:id<s.threads.length):Con Tryz.prog 160 [.agg (encZ s),.int .i64 id,.int .i64 res,.int .i64 got,.int .i64 pc] (.agg (encZ (rTell s id (me s id).kind res got pc)),[],[]):=by
  refine mcb_of_vc mix x160 (by simp [F160]) fun hw _=>?_
  clear hw
  repeat' with_reducible first|refine gTn_of (fun h=>?_) (fun h=>?_)|refine gT_of (fun h=>?_) (fun h=>?_)|refine caseTn_of (fun h=>?_) (fun h=>?_)|refine caseT_of (fun h=>?_) (fun h=>?_)|refine FN ?_ ?_ ?_ ?_ rfl ?_|refine kv_ifn ?_ ?_|refine kv_if ?_ ?_|refine k_if ?_ ?_|refine IA ?_ ?_ ?_|refine L1 ?_ ?_|refine L2 ?_ ?_|refine L3 ?_ ?_ ?_ ?_|refine L4 ?_ ?_|refine L5 ?_ ?_ ?_ ?_ ?_|refine L6 ?_ ?_ ?_ ?_ ?_|refine ia_of (d:=default) ?_ ?_|refine ap_of (rw_slv _ _ _) (by simp -implicitDefEqProofs only [m_get,Nat.reduceEqDiff,reduceIte,if_true,if_false]; first|done|exact rfl) ?_ ?_ ?_ ?_|refine ap_of (rw_slm _ _ _ _ _ _ (by simp -implicitDefEqProofs only [m_get,Nat.reduceEqDiff,reduceIte,if_true,if_false]; first|done|exact rfl) ?_) (by simp -implicitDefEqProofs only [m_get,Nat.reduceEqDiff,reduceIte,if_true,if_false]; first|done|exact rfl) ?_ ?_ ?_ ?_|refine AC.p0 (con176s ?_ ?_) ?_ (by simp -implicitDefEqProofs only [qU,pure_encZ]; done) ?_ ?_|refine AC.p0 (con70 ?_ ?_ ?_) ?_ (by simp -implicitDefEqProofs only [qU,pure_encZ]; done) ?_ ?_|simp -implicitDefEqProofs only [F160,qA,ld_0,ld_pv,st_0,splice,doEqs,qU,List.reduceReplicate,Nat.reduceAdd,Nat.reduceSub,Nat.reduceLeDiff,Nat.reduceEqDiff,Nat.reduceMul,reduceIte,reduceCtorEq,qI,Nat.reduceLT,Nat.reduceBEq,up_s,Int.toNat_natCast,encT,qZ,qC,Int.natCast_zero, *]
  all_goals first
    | omega
    | exact Wk.refl _
    | exact ⟨h0,hlt⟩
    | exact h0
    | exact hlt
    | (rw [tell_len]; omega)
    | trace_state

def F52:AFn:=⟨29,(.seq (.reg [o1 3 (.box 33 0),o1 6 (.mv (.const (.bool false)))]) (.seq (.reg [o1 9 (.ld 20 true 3),o1 10 (.mv 1),o1 11 (.call 135 [9,10]),o1 7 (.mv 11)]) (.seq (.seq (.reg [o1 12 (.mv 7),o1 13 (.not 12)]) (.cond 13 (.seq (.reg [o1 6 (.mv (.const (.bool false)))]) .ret) .skip)) (.seq (.reg [o1 14 (.faddr 18 3),o1 15 (.ld 1 false 14),o1 16 (.mv 1),o1 17 (.iaddr 11 15 16),o1 18 (.ld 11 true 17),o1 8 (.alloc 48 [(.int .i64 0),(.int .i64 0),(.int .i64 0),(.int .i64 0),(.int .i64 0),(.int .i64 0),(.int .i64 0),(.int .i64 0),(.bool false),(.int .i64 0),(.int .i64 0)]),o2 (.st 11 8 18)]) (.seq (.reg [o1 19 (.faddr 0 8),o1 20 (.ld 1 false 19),o1 21 (.bin .eql 20 (ci 1)),o1 22 (.mv 21),o3 23 (.faddr 1 8) 22,o3 24 (.ld 1 false 23) 22,o3 25 (.call 136 [24]) 22,o3 26 (.mv 2) 22,o3 27 (.bin .eql 25 26) 22,o1 28 (.pick 22 27 (.const (.bool false))),o1 6 (.mv 28)]) .ret))))),[(6,none)]⟩
theorem x52:xf Tryz.prog 52=some F52:=by kernel_rfl
theorem con52 {s:State} {id side:Int} (h:s.threads.length≤100000000):Con Tryz.prog 52 [.agg (encZ s),.int .i64 id,.int .i64 side] (.bool (fabIs s id && decide (tRuns (me s id)=0) && decide (opSide (me s id).kind=side)),[],[]):=by
  refine mcb_of_vc mix x52 (by simp [F52]) fun hw _=>?_
  clear hw
  repeat' with_reducible first|refine gTn_of (fun h=>?_) (fun h=>?_)|refine gT_of (fun h=>?_) (fun h=>?_)|refine caseTn_of (fun h=>?_) (fun h=>?_)|refine caseT_of (fun h=>?_) (fun h=>?_)|refine FN ?_ ?_ ?_ ?_ rfl ?_|refine kv_ifn ?_ ?_|refine kv_if ?_ ?_|refine k_if ?_ ?_|refine IA ?_ ?_ ?_|refine L1 ?_ ?_|refine L2 ?_ ?_|refine L3 ?_ ?_ ?_ ?_|refine L4 ?_ ?_|refine L5 ?_ ?_ ?_ ?_ ?_|refine L6 ?_ ?_ ?_ ?_ ?_|refine ia_of (d:=default) ?_ ?_|refine ap_of (rw_slv _ _ _) (by simp -implicitDefEqProofs only [m_get,Nat.reduceEqDiff,reduceIte,if_true,if_false]; first|done|exact rfl) ?_ ?_ ?_ ?_|refine ap_of (rw_slm _ _ _ _ _ _ (by simp -implicitDefEqProofs only [m_get,Nat.reduceEqDiff,reduceIte,if_true,if_false]; first|done|exact rfl) ?_) (by simp -implicitDefEqProofs only [m_get,Nat.reduceEqDiff,reduceIte,if_true,if_false]; first|done|exact rfl) ?_ ?_ ?_ ?_|refine AC.p0 (con135s ?_) ?_ (by simp -implicitDefEqProofs only [qU,pure_encZ]; done) ?_ ?_|refine P0 (con136) ?_ ?_ ?_|refine ACV.of (con136) ?_ ?_ ?_|refine ACK.of (con136) ?_ ?_|simp -implicitDefEqProofs only [F52,qA,ld_0,ld_pv,st_0,splice,doEqs,qU,List.reduceReplicate,Nat.reduceAdd,Nat.reduceSub,Nat.reduceLeDiff,Nat.reduceEqDiff,Nat.reduceMul,reduceIte,reduceCtorEq,qI,Nat.reduceLT,Nat.reduceBEq,up_s,Int.toNat_natCast,encT,qZ,qC,Int.natCast_zero, *]
  all_goals first
    | omega
    | exact Wk.refl _
    | exact (lt_of_is (by assumption)).1
    | exact (lt_of_is (by assumption)).2.1
    | exact ⟨(lt_of_is (by assumption)).1,(lt_of_is (by assumption)).2.1⟩
    | (refine Wk.of_eq ?_; simp [*]; done)
    | (have h9:fabIs s id=true:=by assumption
       refine Wk.of_eq ?_; unfold me; rw [runs_iff h9]; simp only [*,Bool.true_and,Bool.false_and]; done)
    | trace_state

theorem splice_c (a:AV) (l:List AV) (o:Nat) (v:List AV):splice (a :: l) o v=(a :: l).take o ++ v ++ (a :: l).drop (o+v.length):=rfl
theorem sp_word (s:State) (x y z:Int):splice (encZ s) 7 [.int .i64 x,.int .i64 y,.int .i64 z]=encZ (withWord s ⟨x,y,z⟩):=rfl
theorem sp_slots (s:State) (l:List Slot):splice (encZ s) 10 [.slv 2 (l.map encS)]=encZ (withSlots s l):=rfl
theorem sp_sends (s:State) (l:List Int):splice (encZ s) 11 [.slv 1 (l.map encI)]=encZ (withSends s l):=rfl
theorem sp_recvs (s:State) (l:List Int):splice (encZ s) 12 [.slv 1 (l.map encI)]=encZ (withRecvs s l):=rfl
theorem sp_full (s:State) (n:Int) (l:List Int):splice (encZ s) 13 [.int .i64 n,.slv 1 (l.map encI)]=encZ (withFull s ⟨n,l⟩):=rfl
theorem sp_empty (s:State) (n:Int) (l:List Int):splice (encZ s) 15 [.int .i64 n,.slv 1 (l.map encI)]=encZ (withEmpty s ⟨n,l⟩):=rfl
theorem sp_allZ (s u:State):splice (encZ u) 0 (encZ s)=encZ s:=rfl
theorem sp_allW (w u:Word):splice (encW u) 0 (encW w)=encW w:=rfl
theorem pure_encC7 (c:Config):pures (encC c)=true:=rfl
theorem sp_allV (w u:Event):splice (encV u) 0 (encV w)=encV w:=rfl
def F79:AFn:=⟨17,(.seq (.reg [o1 1 (.box 33 0),o1 2 (.mv (ci 0))]) (.seq (.reg [o1 7 (.faddr 7 1),o1 8 (.ld 3 true 7),o1 9 (.faddr 10 1),o1 10 (.ld 1 false 9),o1 11 (.len 10),o1 12 (.call 167 [8,11]),o1 6 (.mv 12),o1 13 (.ext 6 0),o1 14 (.ext 6 1),o1 15 (.ext 6 2),o1 3 (.alloc 25 [(.int .i64 0),(.int .i64 0),(.int .i64 0)]),o2 (.st 3 3 13),o1 4 (.mv 14),o1 5 (.mv 15)]) (.seq (.reg [o1 16 (.mv 5),o1 2 (.mv 16)]) .ret))),[(2,none)]⟩
theorem x79:xf Tryz.prog 79=some F79:=by kernel_rfl
theorem con79  {s:State}:Con Tryz.prog 79 [.agg (encZ s)] ((.int .i64 ((wAccept s.word s.slots.length).2.2)),[],[]):=by
  refine mcb_of_vc mix x79 (by simp [F79]) fun hw _=>?_
  simp only [wfs,AV.wf,inR_i64] at hw
  repeat' with_reducible first|refine gTn_of (fun h=>?_) (fun h=>?_)|refine gT_of (fun h=>?_) (fun h=>?_)|refine caseTn_of (fun h=>?_) (fun h=>?_)|refine caseT_of (fun h=>?_) (fun h=>?_)|refine fin_pure ?_ ?_ ?_ ?_|refine kv_ifn ?_ ?_|refine kv_if ?_ ?_|refine k_if ?_ ?_|refine P0 (con167) ?_ ?_ ?_|refine ACV.of (con167) ?_ ?_ ?_|refine ACK.of (con167) ?_ ?_|simp -implicitDefEqProofs only [F79,qA,doLd,doSt,splice,doEqs,qU,List.reduceReplicate,Nat.reduceAdd,Nat.reduceSub,Nat.reduceLeDiff,Nat.reduceEqDiff,Nat.reduceMul,reduceIte,reduceCtorEq,qZ,qC,encW,len_slv, *]
  all_goals first
    | (simp; done)
    | exact idxF_any
    | exact idxF_any.symm
    | grind [inR_i64,wrap64,maxLen_eq]

def F71:AFn:=⟨25,(.seq (.reg [o1 2 (.box 33 0),o1 4 (.alloc 33 [(.int .i64 0),(.int .i64 0),(.int .i64 0),(.int .i64 0),(.int .i64 0),(.int .i64 0),(.bool false),(.int .i64 0),(.int .i64 0),(.int .i64 0),.slnil,.slnil,.slnil,(.int .i64 0),.slnil,(.int .i64 0),.slnil,(.int .i64 0),.slnil,.slnil])]) (.seq (.seq (.reg [o1 5 (.faddr 11 2),o1 6 (.ld 1 false 5),o1 7 (.mv 1),o1 8 (.call 159 [6,7]),o1 9 (.bin .eql 8 (ci 0))]) (.cond 9 (.seq (.reg [o1 10 (.ld 20 true 2),o1 11 (.mv 1),o1 12 (.call 70 [10,11,(ci 2)]),o2 (.st 20 4 12)]) .ret) .skip)) (.seq (.seq (.reg [o1 13 (.faddr 18 2),o1 14 (.ld 1 false 13),o1 15 (.mv 1),o1 16 (.iaddr 11 14 15),o1 17 (.faddr 8 16),o1 18 (.ld 1 false 17)]) (.cond 18 (.seq (.reg [o1 19 (.ld 20 true 2),o1 20 (.mv 1),o1 21 (.call 160 [19,20,(ci 5),(ci 0),(ci 9)]),o2 (.st 20 4 21)]) .ret) .skip)) (.seq (.reg [o1 22 (.ld 20 true 2),o1 23 (.mv 1),o1 24 (.call 161 [22,23]),o2 (.st 20 4 24)]) .ret)))),[(4,some (20,true))]⟩
theorem x71:xf Tryz.prog 71=some F71:=by kernel_rfl
theorem con71 {s:State} {id:Int} (hT:s.threads.length≤100000000) (h7:s.log.length≤100000000) (h0:0≤id) (hlt:id<s.threads.length) (ht:0≤(me s id).tries∧(me s id).tries≤1099511627776):Con Tryz.prog 71 [.agg (encZ s),.int .i64 id] (.agg (encZ (sFirst s id)),[],[]):=by
  refine mcb_of_vc mix x71 (by simp [F71]) fun hw _=>?_
  clear hw
  repeat' with_reducible first|refine gTn_of (fun h=>?_) (fun h=>?_)|refine gT_of (fun h=>?_) (fun h=>?_)|refine caseTn_of (fun h=>?_) (fun h=>?_)|refine caseT_of (fun h=>?_) (fun h=>?_)|refine FN ?_ ?_ ?_ ?_ rfl ?_|refine kv_ifn ?_ ?_|refine kv_if ?_ ?_|refine k_if ?_ ?_|refine IA ?_ ?_ ?_|refine L1 ?_ ?_|refine L2 ?_ ?_|refine L3 ?_ ?_ ?_ ?_|refine L4 ?_ ?_|refine L5 ?_ ?_ ?_ ?_ ?_|refine L6 ?_ ?_ ?_ ?_ ?_|refine ia_of (d:=default) ?_ ?_|refine ap_of (rw_slv _ _ _) (by simp -implicitDefEqProofs only [m_get,Nat.reduceEqDiff,reduceIte,if_true,if_false]; first|done|exact rfl) ?_ ?_ ?_ ?_|refine ap_of (rw_slm _ _ _ _ _ _ (by simp -implicitDefEqProofs only [m_get,Nat.reduceEqDiff,reduceIte,if_true,if_false]; first|done|exact rfl) ?_) (by simp -implicitDefEqProofs only [m_get,Nat.reduceEqDiff,reduceIte,if_true,if_false]; first|done|exact rfl) ?_ ?_ ?_ ?_|refine AC.p0 (con76s ?_ ?_ ?_) ?_ (by simp -implicitDefEqProofs only [qU,pure_encZ]; done) ?_ ?_|refine AC.p0 (con176s ?_ ?_) ?_ (by simp -implicitDefEqProofs only [qU,pure_encZ]; done) ?_ ?_|refine AC.p0 (con78s ?_) ?_ (by simp -implicitDefEqProofs only [qU,pure_encZ]; done) ?_ ?_|refine AC.p0 (con70 ?_ ?_ ?_) ?_ (by simp -implicitDefEqProofs only [qU,pure_encZ]; done) ?_ ?_|refine AC.p0 (con162 ?_ ?_ ?_) ?_ (by simp -implicitDefEqProofs only [qU,pure_encZ]; done) ?_ ?_|refine AC.p0 (con161 ?_ ?_ ?_ ?_) ?_ (by simp -implicitDefEqProofs only [qU,pure_encZ]; done) ?_ ?_|refine AC.p0 (con160 ?_ ?_ ?_ ?_) ?_ (by simp -implicitDefEqProofs only [qU,pure_encZ]; done) ?_ ?_|refine AC.p0 (con174s ?_) ?_ (by simp -implicitDefEqProofs only [qU,pure_encZ]; done) ?_ ?_|refine P0 (con159) ?_ ?_ ?_|refine ACV.of (con159) ?_ ?_ ?_|refine ACK.of (con159) ?_ ?_|simp -implicitDefEqProofs only [F71,qA,ld_0,ld_pv,st_0,doEqs,qU,List.reduceReplicate,Nat.reduceAdd,Nat.reduceSub,Nat.reduceLeDiff,Nat.reduceEqDiff,Nat.reduceMul,reduceIte,reduceCtorEq,qI,Nat.reduceLT,Nat.reduceBEq,up_s,Int.toNat_natCast,encT,qZ,splice_c,sp_word,sp_slots,sp_sends,sp_recvs,sp_full,sp_empty,sp_allZ,sp_allW,sp_allV,qC,encW,encV,Int.natCast_zero, *]
  all_goals first
    | omega
    | exact Wk.refl _
    | (simp only [pures,AV.pure,pure_encZ,pure_encC7,Bool.and_true]; done)
    | exact ⟨h0,hlt⟩
    | exact h0
    | exact hlt
    | exact hT
    | exact h7
    | (rw [tell_len]; first | exact hT | exact hlt)
    | (simp only [withWord,withSlots,withSends,withRecvs,withFull,withEmpty,put1,List.length_set]; first | exact hT | exact h7 | exact hlt | omega)
    | exact ht
    | (simp only [decide_eq_true_eq,decide_eq_false_iff_not,cond_true,cond_false] at *
       refine Wk.of_eq ?_
       clear hT h7 h0 hlt
       simp only [me] at *
       simp only [sFirst,rEnds,me, *,reduceIte,if_true,if_false,Bool.false_eq_true,not_true_eq_false,not_false_eq_true,and_true,true_and,and_false,false_and,Int.reduceEq]
       done)
    | trace_state

theorem con192s {c:Config} {n:Int} (hn:0≤n):Con Tryz.prog 192 [.agg (encC c),.int .i64 n] (.int .i64 (waitNext c n),[],[]):=con192 hn
theorem cfg_t (s:State):((encZ s).drop 0).take 7=encC s.cfg:=rfl
def F163:AFn:=⟨51,(.seq (.reg [o1 2 (.box 33 0),o1 4 (.alloc 33 [(.int .i64 0),(.int .i64 0),(.int .i64 0),(.int .i64 0),(.int .i64 0),(.int .i64 0),(.bool false),(.int .i64 0),(.int .i64 0),(.int .i64 0),.slnil,.slnil,.slnil,(.int .i64 0),.slnil,(.int .i64 0),.slnil,(.int .i64 0),.slnil,.slnil])]) (.seq (.reg [o1 6 (.faddr 18 2),o1 7 (.ld 1 false 6),o1 8 (.mv 1),o1 9 (.iaddr 11 7 8),o1 10 (.ld 11 true 9),o1 5 (.alloc 48 [(.int .i64 0),(.int .i64 0),(.int .i64 0),(.int .i64 0),(.int .i64 0),(.int .i64 0),(.int .i64 0),(.int .i64 0),(.bool false),(.int .i64 0),(.int .i64 0)]),o2 (.st 11 5 10)]) (.seq (.seq (.reg [o1 11 (.faddr 0 2),o1 12 (.faddr 2 11),o1 13 (.ld 1 false 12),o1 14 (.bin .eql 13 (ci 1))]) (.cond 14 (.seq (.reg [o1 15 (.ld 20 true 2),o1 16 (.mv 1),o1 17 (.call 160 [15,16,(ci 3),(ci 0),(ci 9)]),o2 (.st 20 4 17)]) .ret) .skip)) (.seq (.seq (.reg [o1 18 (.faddr 0 2),o1 19 (.faddr 2 18),o1 20 (.ld 1 false 19),o1 21 (.bin .eql 20 (ci 2))]) (.cond 21 (.seq (.reg [o1 22 (.ld 20 true 2),o1 23 (.mv 1),o1 24 (.faddr 7 2),o1 25 (.faddr 0 24),o1 26 (.ld 1 false 25),o1 27 (.call 162 [22,23,26,(ci 10)]),o2 (.st 20 4 27)]) .ret) .skip)) (.seq (.seq (.reg [o1 28 (.faddr 1 5),o1 29 (.ld 1 false 28),o1 30 (.bin .eql 29 (ci 2))]) (.cond 30 (.seq (.reg [o1 31 (.ld 20 true 2),o1 32 (.mv 1),o1 33 (.call 160 [31,32,(ci 2),(ci 0),(ci 9)]),o2 (.st 20 4 33)]) .ret) .skip)) (.seq (.seq (.reg [o1 34 (.faddr 8 5),o1 35 (.ld 1 false 34)]) (.cond 35 (.seq (.reg [o1 36 (.ld 20 true 2),o1 37 (.mv 1),o1 38 (.call 160 [36,37,(ci 5),(ci 0),(ci 9)]),o2 (.st 20 4 38)]) .ret) .skip)) (.seq (.seq (.reg [o1 39 (.faddr 0 2),o1 40 (.ld 7 true 39),o1 41 (.faddr 7 5),o1 42 (.ld 1 false 41),o1 43 (.call 192 [40,42]),o1 44 (.bin .eql 43 (ci 2))]) (.cond 44 (.seq (.reg [o1 45 (.ld 20 true 2),o1 46 (.mv 1),o1 47 (.call 70 [45,46,(ci 5)]),o2 (.st 20 4 47)]) .ret) .skip)) (.seq (.reg [o1 48 (.ld 20 true 2),o1 49 (.mv 1),o1 50 (.call 161 [48,49]),o2 (.st 20 4 50)]) .ret)))))))),[(4,some (20,true))]⟩
theorem x163:xf Tryz.prog 163=some F163:=by kernel_rfl
theorem con163 {s:State} {id:Int} (hT:s.threads.length≤100000000) (h7:s.log.length≤100000000) (h0:0≤id) (hlt:id<s.threads.length) (ht:0≤(me s id).tries∧(me s id).tries≤1099511627776):Con Tryz.prog 163 [.agg (encZ s),.int .i64 id] (.agg (encZ (sFull s id)),[],[]):=by
  refine mcb_of_vc mix x163 (by simp [F163]) fun hw _=>?_
  clear hw
  repeat' with_reducible first|refine gTn_of (fun h=>?_) (fun h=>?_)|refine gT_of (fun h=>?_) (fun h=>?_)|refine caseTn_of (fun h=>?_) (fun h=>?_)|refine caseT_of (fun h=>?_) (fun h=>?_)|refine FN ?_ ?_ ?_ ?_ rfl ?_|refine kv_ifn ?_ ?_|refine kv_if ?_ ?_|refine k_if ?_ ?_|refine IA ?_ ?_ ?_|refine L1 ?_ ?_|refine L2 ?_ ?_|refine L3 ?_ ?_ ?_ ?_|refine L4 ?_ ?_|refine L5 ?_ ?_ ?_ ?_ ?_|refine L6 ?_ ?_ ?_ ?_ ?_|refine ia_of (d:=default) ?_ ?_|refine ap_of (rw_slv _ _ _) (by simp -implicitDefEqProofs only [m_get,Nat.reduceEqDiff,reduceIte,if_true,if_false]; first|done|exact rfl) ?_ ?_ ?_ ?_|refine ap_of (rw_slm _ _ _ _ _ _ (by simp -implicitDefEqProofs only [m_get,Nat.reduceEqDiff,reduceIte,if_true,if_false]; first|done|exact rfl) ?_) (by simp -implicitDefEqProofs only [m_get,Nat.reduceEqDiff,reduceIte,if_true,if_false]; first|done|exact rfl) ?_ ?_ ?_ ?_|refine AC.p0 (con76s ?_ ?_ ?_) ?_ (by simp -implicitDefEqProofs only [qU,pure_encZ]; done) ?_ ?_|refine AC.p0 (con176s ?_ ?_) ?_ (by simp -implicitDefEqProofs only [qU,pure_encZ]; done) ?_ ?_|refine AC.p0 (con78s ?_) ?_ (by simp -implicitDefEqProofs only [qU,pure_encZ]; done) ?_ ?_|refine AC.p0 (con70 ?_ ?_ ?_) ?_ (by simp -implicitDefEqProofs only [qU,pure_encZ]; done) ?_ ?_|refine AC.p0 (con162 ?_ ?_ ?_) ?_ (by simp -implicitDefEqProofs only [qU,pure_encZ]; done) ?_ ?_|refine AC.p0 (con161 ?_ ?_ ?_ ?_) ?_ (by simp -implicitDefEqProofs only [qU,pure_encZ]; done) ?_ ?_|refine AC.p0 (con160 ?_ ?_ ?_ ?_) ?_ (by simp -implicitDefEqProofs only [qU,pure_encZ]; done) ?_ ?_|refine AC.p0 (con174s ?_) ?_ (by simp -implicitDefEqProofs only [qU,pure_encZ]; done) ?_ ?_|refine AC.p0 (con192s ?_) ?_ ?_ ?_ ?_|simp -implicitDefEqProofs only [F163,qA,ld_0,ld_pv,st_0,doEqs,qU,List.reduceReplicate,Nat.reduceAdd,Nat.reduceSub,Nat.reduceLeDiff,Nat.reduceEqDiff,Nat.reduceMul,reduceIte,reduceCtorEq,qI,Nat.reduceLT,Nat.reduceBEq,up_s,Int.toNat_natCast,encT,qZ,splice_c,sp_word,sp_slots,sp_sends,sp_recvs,sp_full,sp_empty,sp_allZ,sp_allW,sp_allV,qC,encW,encV,Int.natCast_zero,cfg_t,pure_encC7, *]
  all_goals first
    | omega
    | exact Wk.refl _
    | (simp only [pures,AV.pure,pure_encZ,pure_encC7,Bool.and_true]; done)
    | exact ⟨h0,hlt⟩
    | exact h0
    | exact hlt
    | exact hT
    | exact h7
    | (rw [tell_len]; first | exact hT | exact hlt)
    | (simp only [withWord,withSlots,withSends,withRecvs,withFull,withEmpty,put1,List.length_set]; first | exact hT | exact h7 | exact hlt | omega)
    | exact ht
    | exact ht.1
    | exact pure_encC7 _
    | (simp only [decide_eq_true_eq,decide_eq_false_iff_not,cond_true,cond_false] at *
       refine Wk.of_eq ?_
       clear hT h7 h0 hlt
       simp only [me] at *
       simp only [sFull,rEnds,me, *,reduceIte,if_true,if_false,Bool.false_eq_true,not_true_eq_false,not_false_eq_true,and_true,true_and,and_false,false_and,Int.reduceEq]
       done)
    | trace_state

def F72:AFn:=⟨25,(.seq (.reg [o1 2 (.box 33 0),o1 4 (.alloc 33 [(.int .i64 0),(.int .i64 0),(.int .i64 0),(.int .i64 0),(.int .i64 0),(.int .i64 0),(.bool false),(.int .i64 0),(.int .i64 0),(.int .i64 0),.slnil,.slnil,.slnil,(.int .i64 0),.slnil,(.int .i64 0),.slnil,(.int .i64 0),.slnil,.slnil])]) (.seq (.reg [o1 6 (.ld 20 true 2),o1 7 (.call 79 [6]),o1 5 (.mv 7)]) (.seq (.seq (.reg [o1 8 (.mv 5),o1 9 (.bin .eql 8 (ci 1))]) (.cond 9 (.seq (.reg [o1 10 (.ld 20 true 2),o1 11 (.mv 1),o1 12 (.faddr 7 2),o1 13 (.faddr 1 12),o1 14 (.ld 1 false 13),o1 15 (.call 162 [10,11,14,(ci 3)]),o2 (.st 20 4 15)]) .ret) .skip)) (.seq (.seq (.reg [o1 16 (.mv 5),o1 17 (.bin .eql 16 (ci 2))]) (.cond 17 (.seq (.reg [o1 18 (.ld 20 true 2),o1 19 (.mv 1),o1 20 (.call 163 [18,19]),o2 (.st 20 4 20)]) .ret) .skip)) (.seq (.reg [o1 21 (.ld 20 true 2),o1 22 (.mv 1),o1 23 (.mv 5),o1 24 (.call 160 [21,22,23,(ci 0),(ci 9)]),o2 (.st 20 4 24)]) .ret))))),[(4,some (20,true))]⟩
theorem x72:xf Tryz.prog 72=some F72:=by kernel_rfl
theorem con72 {s:State} {id:Int} (hT:s.threads.length≤100000000) (h7:s.log.length≤100000000) (h0:0≤id) (hlt:id<s.threads.length) (ht:0≤(me s id).tries∧(me s id).tries≤1099511627776):Con Tryz.prog 72 [.agg (encZ s),.int .i64 id] (.agg (encZ (sLook s id)),[],[]):=by
  refine mcb_of_vc mix x72 (by simp [F72]) fun hw _=>?_
  clear hw
  repeat' with_reducible first|refine gTn_of (fun h=>?_) (fun h=>?_)|refine gT_of (fun h=>?_) (fun h=>?_)|refine caseTn_of (fun h=>?_) (fun h=>?_)|refine caseT_of (fun h=>?_) (fun h=>?_)|refine FN ?_ ?_ ?_ ?_ rfl ?_|refine kv_ifn ?_ ?_|refine kv_if ?_ ?_|refine k_if ?_ ?_|refine IA ?_ ?_ ?_|refine L1 ?_ ?_|refine L2 ?_ ?_|refine L3 ?_ ?_ ?_ ?_|refine L4 ?_ ?_|refine L5 ?_ ?_ ?_ ?_ ?_|refine L6 ?_ ?_ ?_ ?_ ?_|refine ia_of (d:=default) ?_ ?_|refine ap_of (rw_slv _ _ _) (by simp -implicitDefEqProofs only [m_get,Nat.reduceEqDiff,reduceIte,if_true,if_false]; first|done|exact rfl) ?_ ?_ ?_ ?_|refine ap_of (rw_slm _ _ _ _ _ _ (by simp -implicitDefEqProofs only [m_get,Nat.reduceEqDiff,reduceIte,if_true,if_false]; first|done|exact rfl) ?_) (by simp -implicitDefEqProofs only [m_get,Nat.reduceEqDiff,reduceIte,if_true,if_false]; first|done|exact rfl) ?_ ?_ ?_ ?_|refine AC.p0 (con76s ?_ ?_ ?_) ?_ (by simp -implicitDefEqProofs only [qU,pure_encZ]; done) ?_ ?_|refine AC.p0 (con176s ?_ ?_) ?_ (by simp -implicitDefEqProofs only [qU,pure_encZ]; done) ?_ ?_|refine AC.p0 (con78s ?_) ?_ (by simp -implicitDefEqProofs only [qU,pure_encZ]; done) ?_ ?_|refine AC.p0 (con70 ?_ ?_ ?_) ?_ (by simp -implicitDefEqProofs only [qU,pure_encZ]; done) ?_ ?_|refine AC.p0 (con162 ?_ ?_ ?_) ?_ (by simp -implicitDefEqProofs only [qU,pure_encZ]; done) ?_ ?_|refine AC.p0 (con161 ?_ ?_ ?_ ?_) ?_ (by simp -implicitDefEqProofs only [qU,pure_encZ]; done) ?_ ?_|refine AC.p0 (con160 ?_ ?_ ?_ ?_) ?_ (by simp -implicitDefEqProofs only [qU,pure_encZ]; done) ?_ ?_|refine AC.p0 (con174s ?_) ?_ (by simp -implicitDefEqProofs only [qU,pure_encZ]; done) ?_ ?_|refine AC.p0 (con79 ) ?_ (by simp -implicitDefEqProofs only [qU,pure_encZ]; done) ?_ ?_|refine AC.p0 (con163 ?_ ?_ ?_ ?_ ?_) ?_ ?_ ?_ ?_|simp -implicitDefEqProofs only [F72,qA,ld_0,ld_pv,st_0,doEqs,qU,List.reduceReplicate,Nat.reduceAdd,Nat.reduceSub,Nat.reduceLeDiff,Nat.reduceEqDiff,Nat.reduceMul,reduceIte,reduceCtorEq,qI,Nat.reduceLT,Nat.reduceBEq,up_s,Int.toNat_natCast,encT,qZ,splice_c,sp_word,sp_slots,sp_sends,sp_recvs,sp_full,sp_empty,sp_allZ,sp_allW,sp_allV,qC,encW,encV,Int.natCast_zero, *]
  all_goals first
    | omega
    | exact Wk.refl _
    | (simp only [pures,AV.pure,pure_encZ,pure_encC7,Bool.and_true]; done)
    | exact ⟨h0,hlt⟩
    | exact h0
    | exact hlt
    | exact hT
    | exact h7
    | (rw [tell_len]; first | exact hT | exact hlt)
    | (simp only [withWord,withSlots,withSends,withRecvs,withFull,withEmpty,put1,List.length_set]; first | exact hT | exact h7 | exact hlt | omega)
    | exact ht
    | (simp only [decide_eq_true_eq,decide_eq_false_iff_not,cond_true,cond_false] at *
       refine Wk.of_eq ?_
       clear hT h7 h0 hlt
       simp only [me] at *
       simp only [sLook,wSees,rEnds,me, *,reduceIte,if_true,if_false,Bool.false_eq_true,not_true_eq_false,not_false_eq_true,and_true,true_and,and_false,false_and,Int.reduceEq]
       done)
    | trace_state

def F74:AFn:=⟨34,(.seq (.reg [o1 2 (.box 33 0),o1 4 (.alloc 33 [(.int .i64 0),(.int .i64 0),(.int .i64 0),(.int .i64 0),(.int .i64 0),(.int .i64 0),(.bool false),(.int .i64 0),(.int .i64 0),(.int .i64 0),.slnil,.slnil,.slnil,(.int .i64 0),.slnil,(.int .i64 0),.slnil,(.int .i64 0),.slnil,.slnil])]) (.seq (.reg [o1 9 (.faddr 7 2),o1 10 (.ld 3 true 9),o1 11 (.faddr 10 2),o1 12 (.ld 1 false 11),o1 13 (.len 12),o1 14 (.call 167 [10,13]),o1 8 (.mv 14),o1 15 (.ext 8 0),o1 16 (.ext 8 1),o1 17 (.ext 8 2),o1 5 (.alloc 25 [(.int .i64 0),(.int .i64 0),(.int .i64 0)]),o2 (.st 3 5 15),o1 6 (.mv 16),o1 7 (.mv 17)]) (.seq (.reg [o1 18 (.ld 3 true 5),o1 19 (.faddr 7 2),o2 (.st 3 19 18)]) (.seq (.seq (.reg [o1 20 (.mv 7),o1 21 (.bin .eql 20 (ci 1))]) (.cond 21 (.seq (.reg [o1 22 (.ld 20 true 2),o1 23 (.mv 1),o1 24 (.call 160 [22,23,(ci 1),(ci 0),(ci 6)]),o2 (.st 20 4 24)]) .ret) .skip)) (.seq (.seq (.reg [o1 25 (.mv 7),o1 26 (.bin .eql 25 (ci 2))]) (.cond 26 (.seq (.reg [o1 27 (.ld 20 true 2),o1 28 (.mv 1),o1 29 (.call 70 [27,28,(ci 2)]),o2 (.st 20 4 29)]) .ret) .skip)) (.seq (.reg [o1 30 (.ld 20 true 2),o1 31 (.mv 1),o1 32 (.mv 7),o1 33 (.call 160 [30,31,32,(ci 0),(ci 9)]),o2 (.st 20 4 33)]) .ret)))))),[(4,some (20,true))]⟩
theorem x74:xf Tryz.prog 74=some F74:=by kernel_rfl
theorem con74 {s:State} {id:Int} (hT:s.threads.length≤100000000) (h7:s.log.length≤100000000) (h0:0≤id) (hlt:id<s.threads.length):Con Tryz.prog 74 [.agg (encZ s),.int .i64 id] (.agg (encZ (sAccept s id)),[],[]):=by
  refine mcb_of_vc mix x74 (by simp [F74]) fun hw _=>?_
  clear hw
  repeat' with_reducible first|refine gTn_of (fun h=>?_) (fun h=>?_)|refine gT_of (fun h=>?_) (fun h=>?_)|refine caseTn_of (fun h=>?_) (fun h=>?_)|refine caseT_of (fun h=>?_) (fun h=>?_)|refine FN ?_ ?_ ?_ ?_ rfl ?_|refine kv_ifn ?_ ?_|refine kv_if ?_ ?_|refine k_if ?_ ?_|refine IA ?_ ?_ ?_|refine L1 ?_ ?_|refine L2 ?_ ?_|refine L3 ?_ ?_ ?_ ?_|refine L4 ?_ ?_|refine L5 ?_ ?_ ?_ ?_ ?_|refine L6 ?_ ?_ ?_ ?_ ?_|refine ia_of (d:=default) ?_ ?_|refine ap_of (rw_slv _ _ _) (by simp -implicitDefEqProofs only [m_get,Nat.reduceEqDiff,reduceIte,if_true,if_false]; first|done|exact rfl) ?_ ?_ ?_ ?_|refine ap_of (rw_slm _ _ _ _ _ _ (by simp -implicitDefEqProofs only [m_get,Nat.reduceEqDiff,reduceIte,if_true,if_false]; first|done|exact rfl) ?_) (by simp -implicitDefEqProofs only [m_get,Nat.reduceEqDiff,reduceIte,if_true,if_false]; first|done|exact rfl) ?_ ?_ ?_ ?_|refine AC.p0 (con76s ?_ ?_ ?_) ?_ (by simp -implicitDefEqProofs only [qU,pure_encZ]; done) ?_ ?_|refine AC.p0 (con176s ?_ ?_) ?_ (by simp -implicitDefEqProofs only [qU,pure_encZ]; done) ?_ ?_|refine AC.p0 (con78s ?_) ?_ (by simp -implicitDefEqProofs only [qU,pure_encZ]; done) ?_ ?_|refine AC.p0 (con70 ?_ ?_ ?_) ?_ (by simp -implicitDefEqProofs only [qU,pure_encZ]; done) ?_ ?_|refine AC.p0 (con162 ?_ ?_ ?_) ?_ (by simp -implicitDefEqProofs only [qU,pure_encZ]; done) ?_ ?_|refine AC.p0 (con161 ?_ ?_ ?_ ?_) ?_ (by simp -implicitDefEqProofs only [qU,pure_encZ]; done) ?_ ?_|refine AC.p0 (con160 ?_ ?_ ?_ ?_) ?_ (by simp -implicitDefEqProofs only [qU,pure_encZ]; done) ?_ ?_|refine AC.p0 (con174s ?_) ?_ (by simp -implicitDefEqProofs only [qU,pure_encZ]; done) ?_ ?_|refine P0 (con167) ?_ ?_ ?_|refine ACV.of (con167) ?_ ?_ ?_|refine ACK.of (con167) ?_ ?_|simp -implicitDefEqProofs only [F74,qA,ld_0,ld_pv,st_0,doEqs,qU,List.reduceReplicate,Nat.reduceAdd,Nat.reduceSub,Nat.reduceLeDiff,Nat.reduceEqDiff,Nat.reduceMul,reduceIte,reduceCtorEq,qI,Nat.reduceLT,Nat.reduceBEq,up_s,Int.toNat_natCast,encT,qZ,splice_c,sp_word,sp_slots,sp_sends,sp_recvs,sp_full,sp_empty,sp_allZ,sp_allW,sp_allV,qC,encW,encV,Int.natCast_zero, *]
  all_goals first
    | omega
    | exact Wk.refl _
    | (simp only [pures,AV.pure,pure_encZ,pure_encC7,Bool.and_true]; done)
    | exact ⟨h0,hlt⟩
    | exact h0
    | exact hlt
    | exact hT
    | exact h7
    | (rw [tell_len]; first | exact hT | exact hlt)
    | (simp only [withWord,withSlots,withSends,withRecvs,withFull,withEmpty,put1,List.length_set]; first | exact hT | exact h7 | exact hlt | omega)
    | (refine Wk.of_eq ?_; unfold sAccept; simp only []; rw [if_pos (of_decide_eq_true (by assumption:decide ((wAccept s.word s.slots.length).2.2=1)=true))]; first | done | rfl)
    | (refine Wk.of_eq ?_; unfold sAccept; simp only []; rw [if_neg (of_decide_eq_false (by assumption:decide ((wAccept s.word s.slots.length).2.2=1)=false)),if_pos (of_decide_eq_true (by assumption:decide ((wAccept s.word s.slots.length).2.2=2)=true))]; first | done | rfl)
    | (refine Wk.of_eq ?_; unfold sAccept; simp only []; rw [if_neg (of_decide_eq_false (by assumption:decide ((wAccept s.word s.slots.length).2.2=1)=false)),if_neg (of_decide_eq_false (by assumption:decide ((wAccept s.word s.slots.length).2.2=2)=false))]; first | done | rfl)
    | trace_state

end Go.Sak
