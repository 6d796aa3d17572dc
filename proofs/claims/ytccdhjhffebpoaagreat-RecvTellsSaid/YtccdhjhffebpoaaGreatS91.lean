/- Part S91 of the proofs about the program: K120. Conditions: none. -/
import Derived.Test.YtccdhjhffebpoaaGreatS90
import Derived.Test.YtccdhjhffebpoaaGreatS58
import Derived.Test.YtccdhjhffebpoaaGreatS59
import Derived.Test.YtccdhjhffebpoaaGreatS04
import Derived.Test.YtccdhjhffebpoaaGreatProg
import Derived.KernelRfl
namespace Go.Sak
open Go Go.RowKit Go.Proofs
set_option linter.unusedVariables false
set_option linter.unusedSimpArgs false
set_option maxRecDepth 10000
set_option maxHeartbeats 8000000
def F26:AFn:=⟨33,(.seq (.reg [o1 3 (.box 33 0),o1 6 (.alloc 33 [(.int .i64 0),(.int .i64 0),(.int .i64 0),(.int .i64 0),(.int .i64 0),(.int .i64 0),(.bool false),(.int .i64 0),(.int .i64 0),(.int .i64 0),.slnil,.slnil,.slnil,(.int .i64 0),.slnil,(.int .i64 0),.slnil,(.int .i64 0),.slnil,.slnil]),o1 7 (.mv (ci 0))]) (.seq (.reg [o1 8 (.mv (ci 0))]) (.seq (.reg [o1 10 (.ld 20 true 3),o1 11 (.mv 1),o1 12 (.call 52 [10,11,(ci 2)]),o1 9 (.mv 12)]) (.seq (.block 0 (.loop (.seq (.seq (.reg [o1 13 (.mv 8),o1 14 (.mv 2),o1 15 (.bin .lss 13 14),o1 16 (.mv 15),o3 17 (.mv 8) 16,o3 18 (.bin .lss 17 (ci 1000)) 16,o1 19 (.pick 16 18 (.const (.bool false))),o1 20 (.mv 19),o3 21 (.mv 9) 20,o1 22 (.pick 20 21 (.const (.bool false)))]) (.cond 22 .skip (.exit 0))) (.block 1 (.seq (.reg [o1 23 (.ld 20 true 3),o1 24 (.mv 1),o1 25 (.call 28 [23,24]),o2 (.st 20 3 25)]) (.seq (.reg [o1 26 (.mv 8),o1 27 (.bin .add 26 (ci 1)),o1 8 (.mv 27)]) (.reg [o1 28 (.ld 20 true 3),o1 29 (.mv 1),o1 30 (.call 52 [28,29,(ci 2)]),o1 9 (.mv 30)]))))))) (.seq (.reg [o1 31 (.ld 20 true 3),o1 32 (.mv 8),o2 (.st 20 6 31),o1 7 (.mv 32)]) .ret))))),[(6,some (20,true)),(7,none)]⟩
theorem x26:xf Tryz.prog 26=some F26:=by kernel_rfl
theorem lt_min3 {k:Nat} {m:Int} (h1:(k:Int)<m) (h2:(k:Int)<1000):k<(min (max m 0) 1000).toNat:=by omega
theorem g_wk2 {s st:State} {id m:Int} {k:Nat} (h:gRun s id (min (max m 0) 1000).toNat=((gRun st id ((min (max m 0) 1000).toNat - k)).1,(gRun st id ((min (max m 0) 1000).toNat - k)).2+k)) (he:(min (max m 0) 1000).toNat≤k∨gIs st id=false):Wk (.tup [.agg (encZ st),.int .i64 k]) (.tup [.agg (encZ (gSteps s id m).1),.int .i64 (gSteps s id m).2]):=g_wk rfl h he rfl
theorem ge_min3 {k:Nat} {m:Int} (h:¬ (k:Int)<m∨¬ (k:Int)<1000):(min (max m 0) 1000).toNat≤k:=by omega
theorem con26 {s:State} {id m:Int} (h:Bd s 100000):Con Tryz.prog 26 [.agg (encZ s),.int .i64 id,.int .i64 m] (.tup [.agg (encZ (gSteps s id m).1),.int .i64 (gSteps s id m).2],[],[]):=by
  have hs:=h.mono (n:=1000000) (by omega)
  have hT:s.threads.length≤100000000:=by have:=h.all; omega
  refine mcb_of_vc mix x26 (by simp [F26]) fun hw _=>?_
  clear hw
  repeat' with_reducible first|refine gTn_of (fun h=>?_) (fun h=>?_)|refine gT_of (fun h=>?_) (fun h=>?_)|refine caseTn_of (fun h=>?_) (fun h=>?_)|refine caseT_of (fun h=>?_) (fun h=>?_)|refine FN ?_ ?_ ?_ ?_ rfl ?_|refine kv_ifn ?_ ?_|refine kv_if ?_ ?_|refine k_if ?_ ?_|refine IA ?_ ?_ ?_|refine L1 ?_ ?_|refine L2 ?_ ?_|refine L3 ?_ ?_ ?_ ?_|refine L4 ?_ ?_|refine L5 ?_ ?_ ?_ ?_ ?_|refine L6 ?_ ?_ ?_ ?_ ?_|refine AC.p0 (con52b ?_) ?_ (by simp -implicitDefEqProofs only [qU,pure_encZ]; done) ?_ ?_|refine AC.p0 (con28 ?_) ?_ (by simp -implicitDefEqProofs only [qU,pure_encZ]; done) ?_ ?_|simp -implicitDefEqProofs only [F26,qA,ld_0,ld_pv,st_0,doEqs,qU,List.reduceReplicate,Nat.reduceAdd,Nat.reduceSub,Nat.reduceLeDiff,Nat.reduceEqDiff,Nat.reduceMul,reduceIte,reduceCtorEq,qI,Nat.reduceLT,Nat.reduceBEq,up_s,Int.toNat_natCast,qZ,splice_c,sp_word,sp_slots,sp_sends,sp_recvs,sp_full,sp_empty,sp_allZ,sp_allW,sp_allV,qC,Int.natCast_zero,nl_s,nl_0,lm_normal,lm_exit,lm_ret, *]
  all_goals first
    | refine lm_of 5 (fun t:Nat×State=>nl 1 (some (.int .i64 id) :: some (.int .i64 m) :: some (.ptr 2 0 0) :: nl 2 (some (.ptr 3 0 0) :: nl 1 (some (.int .i64 t.1) :: some (.bool (gIs t.2 id)) :: nl 23 [])))) (fun t=>[(2,.rows 33 20 [encZ t.2]),(3,.rows 33 20 [[(.int .i64 0),(.int .i64 0),(.int .i64 0),(.int .i64 0),(.int .i64 0),(.int .i64 0),(.bool false),(.int .i64 0),(.int .i64 0),(.int .i64 0),.slnil,.slnil,.slnil,(.int .i64 0),.slnil,(.int .i64 0),.slnil,(.int .i64 0),.slnil,.slnil]])]) (fun t=>t.1≤(min (max m 0) 1000).toNat∧gRun s id (min (max m 0) 1000).toNat=((gRun t.2 id ((min (max m 0) 1000).toNat - t.1)).1,(gRun t.2 id ((min (max m 0) 1000).toNat - t.1)).2+t.1)∧Bd t.2 (100000+t.1)) (fun t=>(min (max m 0) 1000).toNat - t.1) [] [(1,2),(17,3)] (0,s) (by omega) ?_ ?_ ?_ ?_ ?_ ?_
    | omega
    | exact hs
    | exact hT
    | trace_state
  rotate_right
  · rintro ⟨k,st⟩ ⟨hJ1,hJ2,hJ3⟩
    simp only [] at hJ1 hJ2 hJ3
    have hb:=hJ3.mono (n:=1000000) (by omega)
    have hT2:(gStep st id).threads.length≤100000000:=by have:=(bd_gStep (id:=id) hJ3).all; omega
    simp only [all_some,all_none,all_nil,nl_s,nl_0]
    intros
    repeat' with_reducible first|refine gTn_of (fun h=>?_) (fun h=>?_)|refine gT_of (fun h=>?_) (fun h=>?_)|refine caseTn_of (fun h=>?_) (fun h=>?_)|refine caseT_of (fun h=>?_) (fun h=>?_)|refine FN ?_ ?_ ?_ ?_ rfl ?_|refine kv_ifn ?_ ?_|refine kv_if ?_ ?_|refine k_if ?_ ?_|refine IA ?_ ?_ ?_|refine L1 ?_ ?_|refine L2 ?_ ?_|refine L3 ?_ ?_ ?_ ?_|refine L4 ?_ ?_|refine L5 ?_ ?_ ?_ ?_ ?_|refine L6 ?_ ?_ ?_ ?_ ?_|refine AC.p0 (con52b ?_) ?_ (by simp -implicitDefEqProofs only [qU,pure_encZ]; done) ?_ ?_|refine AC.p0 (con28 ?_) ?_ (by simp -implicitDefEqProofs only [qU,pure_encZ]; done) ?_ ?_|refine rm_of [] [(2,2),(3,3)] (k+1,gStep st id) ?_ ?_ ?_ ?_ ?_ ?_|simp -implicitDefEqProofs only [F26,qA,ld_0,ld_pv,st_0,doEqs,qU,List.reduceReplicate,Nat.reduceAdd,Nat.reduceSub,Nat.reduceLeDiff,Nat.reduceEqDiff,Nat.reduceMul,reduceIte,reduceCtorEq,qI,Nat.reduceLT,Nat.reduceBEq,up_s,Int.toNat_natCast,qZ,splice_c,sp_word,sp_slots,sp_sends,sp_recvs,sp_full,sp_empty,sp_allZ,sp_allW,sp_allV,qC,Int.natCast_zero,nl_s,nl_0,lm_normal,lm_exit,lm_ret, *]
    all_goals first
      | exact hb
      | exact hT2
      | exact g_wk2 hJ2 (.inr (by assumption))
      | exact g_wk2 hJ2 (.inl (ge_min3 (.inl (of_decide_eq_false (by assumption)))))
      | exact g_wk2 hJ2 (.inl (ge_min3 (.inr (of_decide_eq_false (by assumption)))))
      | (have hk:=lt_min3 (of_decide_eq_true (by assumption)) (of_decide_eq_true (by assumption)) (k:=k) (m:=m)
         first
         | omega
         | (refine ⟨hk,?_,(bd_gStep hJ3).mono (by omega)⟩
            have e:gRun st id ((min (max m 0) 1000).toNat - k)=((gRun (gStep st id) id ((min (max m 0) 1000).toNat - (k+1))).1,(gRun (gStep st id) id ((min (max m 0) 1000).toNat - (k+1))).2+1):=nrun_next (is:=fun s=>gIs s id) (by assumption:gIs st id=true) hk
            rw [e]
            exact ⟨rfl,by simp only []; omega⟩)
         | exact ⟨trivial,by rw [wrap64 (by omega) (by omega)]; omega⟩
         | (rw [wrap64 (by omega) (by omega)]; omega))
      | trace_state
  all_goals first
    | omega
    | exact ⟨Nat.zero_le _,rfl,h⟩
    | (simp -implicitDefEqProofs only [qA,ld_0,ld_pv,st_0,splice,doEqs,qU,List.reduceReplicate,Nat.reduceAdd,Nat.reduceSub,Nat.reduceLeDiff,Nat.reduceEqDiff,Nat.reduceMul,reduceIte,reduceCtorEq,qI,Nat.reduceLT,Nat.reduceBEq,qZ,nl_s,nl_0]; first | done | (simp; done))
    | trace_state

def F4:AFn:=⟨81,(.seq (.reg [o1 4 (.box 33 0),o1 8 (.mv (.const (.bool false)))]) (.seq (.reg [o1 15 (.call 24 []),o1 9 (.mv 15)]) (.seq (.seq (.reg [o1 16 (.ld 20 true 4),o1 17 (.call 16 [16]),o1 18 (.not 17),o1 19 (.mv 18),o4 20 (.mv 2) 19,o4 21 (.bin .gtr 20 (ci 30)) 19,o1 22 (.pick 19 (.const (.bool true)) 21)]) (.cond 22 (.seq (.reg [o1 23 (.mv 9),o1 8 (.mv 23)]) .ret) .skip)) (.seq (.reg [o1 25 (.ld 20 true 4),o1 26 (.mv 1),o1 27 (.mv 2),o1 28 (.call 25 [25,26,27]),o1 24 (.mv 28),o1 29 (.ext 24 0),o1 30 (.ext 24 1),o1 10 (.alloc 33 [(.int .i64 0),(.int .i64 0),(.int .i64 0),(.int .i64 0),(.int .i64 0),(.int .i64 0),(.bool false),(.int .i64 0),(.int .i64 0),(.int .i64 0),.slnil,.slnil,.slnil,(.int .i64 0),.slnil,(.int .i64 0),.slnil,(.int .i64 0),.slnil,.slnil]),o2 (.st 20 10 29),o1 11 (.mv 30)]) (.seq (.reg [o1 32 (.ld 20 true 4),o1 33 (.mv 1),o1 34 (.mv 2),o1 35 (.call 26 [32,33,34]),o1 31 (.mv 35),o1 36 (.ext 31 0),o1 37 (.ext 31 1),o1 12 (.alloc 33 [(.int .i64 0),(.int .i64 0),(.int .i64 0),(.int .i64 0),(.int .i64 0),(.int .i64 0),(.bool false),(.int .i64 0),(.int .i64 0),(.int .i64 0),.slnil,.slnil,.slnil,(.int .i64 0),.slnil,(.int .i64 0),.slnil,(.int .i64 0),.slnil,.slnil]),o2 (.st 20 12 36),o1 13 (.mv 37)]) (.seq (.reg [o1 14 (.mv (ci 0))]) (.seq (.seq (.reg [o1 38 (.mv 3),o1 39 (.bin .eql 38 (ci 3))]) (.cond 39 (.reg [o1 14 (.mv (ci 3))]) .skip)) (.seq (.seq (.reg [o1 40 (.mv 3),o1 41 (.bin .eql 40 (ci 4))]) (.cond 41 (.reg [o1 14 (.mv (ci 2))]) .skip)) (.seq (.seq (.reg [o1 42 (.mv 3),o1 43 (.bin .eql 42 (ci 6))]) (.cond 43 (.reg [o1 14 (.mv (ci 1))]) .skip)) (.seq (.regT [o1 44 (.mv 9),o1 45 (.mv 44),o3 46 (.ld 20 true 4) 45,o3 47 (.mv 1) 45,o3 48 (.call 27 [46,47]) 45,o3 49 (.ld 20 true 4) 45,o3 50 (.mv 1) 45,o3 51 (.call 28 [49,50]) 45,o3 52 (.call 19 [48,51]) 45,o1 53 (.pick 45 52 (.const (.bool false))),o1 54 (.mv 53),o3 55 (.ld 20 true 10) 54,o3 56 (.ld 20 true 12) 54,o3 57 (.call 19 [55,56]) 54,o1 58 (.pick 54 57 (.const (.bool false))),o1 59 (.mv 58),o3 60 (.mv 11) 59,o3 61 (.mv 13) 59,o3 62 (.bin .eql 60 61) 59,o1 63 (.pick 59 62 (.const (.bool false))),o1 64 (.mv 63),o3 65 (.mv 3) 64,o3 66 (.call 29 [65]) 64,o3 67 (.mv 3) 64,o3 68 (.bin .geq 67 (ci 1)) 64,o3 69 (.mv 68) 64,o3 70 (.mv 3) 69,o3 71 (.bin .leq 70 (ci 11)) 69,o3 72 (.pick 69 71 (.const (.bool false))) 64,o3 73 (.eqb false 66 72) 64,o1 74 (.pick 64 73 (.const (.bool false))),o1 75 (.mv 74),o3 76 (.mv 3) 75,o3 77 (.call 30 [76]) 75,o3 78 (.mv 14) 75,o3 79 (.bin .eql 77 78) 75,o1 80 (.pick 75 79 (.const (.bool false))),o1 8 (.mv 80)] [(2,5),(4,5),(11,12)]) .ret)))))))))),[(8,none)]⟩
theorem x4:xf Tryz.prog 4=some F4:=by kernel_rfl
theorem con4 {s:State} {id many pc:Int}:Con Tryz.prog 4 [.agg (encZ s),.int .i64 id,.int .i64 many,.int .i64 pc] (.bool true,[],[]):=by
  refine mcb_of_vc mix x4 (by simp [F4]) fun hw _=>?_
  clear hw
  repeat' with_reducible first|refine gTn_of (fun h=>?_) (fun h=>?_)|refine gT_of (fun h=>?_) (fun h=>?_)|refine caseTn_of (fun h=>?_) (fun h=>?_)|refine caseT_of (fun h=>?_) (fun h=>?_)|refine FN ?_ ?_ ?_ ?_ rfl ?_|refine kv_ifn ?_ ?_|refine kv_if ?_ ?_|refine k_if ?_ ?_|refine IA ?_ ?_ ?_|refine L1 ?_ ?_|refine L2 ?_ ?_|refine L3 ?_ ?_ ?_ ?_|refine L4 ?_ ?_|refine L5 ?_ ?_ ?_ ?_ ?_|refine L6 ?_ ?_ ?_ ?_ ?_|refine AC.p0 (con24 ) ?_ (by simp -implicitDefEqProofs only [qU,pure_encZ]; done) ?_ ?_|refine AC.p0 (con16s ) ?_ (by simp -implicitDefEqProofs only [qU,pure_encZ]; done) ?_ ?_|refine AC.p0 (con25 ?_) ?_ (by simp -implicitDefEqProofs only [qU,pure_encZ]; done) ?_ ?_|refine AC.p0 (con27s ?_) ?_ (by simp -implicitDefEqProofs only [qU,pure_encZ]; done) ?_ ?_|refine AC.p0 (con19s ?_) ?_ (by simp -implicitDefEqProofs only [qU,pure_encZ]; done) ?_ ?_|refine AC.p0 (con26 ?_) ?_ (by simp -implicitDefEqProofs only [qU,pure_encZ]; done) ?_ ?_|refine AC.p0 (con28 ?_) ?_ (by simp -implicitDefEqProofs only [qU,pure_encZ]; done) ?_ ?_|refine P0 (con29) ?_ ?_ ?_|refine ACV.of (con29) ?_ ?_ ?_|refine ACK.of (con29) ?_ ?_|refine P0 (con30) ?_ ?_ ?_|refine ACV.of (con30) ?_ ?_ ?_|refine ACK.of (con30) ?_ ?_|simp -implicitDefEqProofs only [F4,qA,ld_0,ld_pv,st_0,splice,doEqs,qU,List.reduceReplicate,Nat.reduceAdd,Nat.reduceSub,Nat.reduceLeDiff,Nat.reduceEqDiff,Nat.reduceMul,reduceIte,reduceCtorEq,qI,Nat.reduceLT,Nat.reduceBEq,up_s,Int.toNat_natCast,encT,qZ,Int.reduceEq,Int.reduceNe, *]
  all_goals first
    | exact Wk.refl _
    | exact (few_bd (by assumption)).mono (by omega)
    | exact (bd_gStep (few_bd (by assumption))).mono (by omega)
    | exact (bd_gSteps (few_bd (by assumption))).mono (by omega)
    | (exfalso; grind [gNear,gInside])
    | (refine Wk.of_eq ?_; congr 1; grind [gNear,gInside])
    | trace_state

end Go.Sak
