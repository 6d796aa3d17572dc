/- Part S109 of the proofs about the program: K210. Conditions: none. -/
import Derived.Test.YtahdilehajdhgaaGreatS108
import Derived.Test.YtahdilehajdhgaaGreatS04
import Derived.Test.YtahdilehajdhgaaGreatProg
import Derived.KernelRfl
namespace Go.Sak
open Go Go.RowKit Go.Proofs
set_option linter.unusedVariables false
set_option linter.unusedSimpArgs false
set_option maxRecDepth 10000
set_option maxHeartbeats 8000000
def F57:AFn:=⟨18,(.seq (.reg [o1 2 (.alloc 51 [(.int .i64 0),(.int .i64 0)]),o1 3 (.mv (.const (.bool false)))]) (.seq (.seq (.reg [o1 4 (.mv 0),o1 5 (.call 85 [4]),o1 6 (.not 5),o1 7 (.mv 6),o4 8 (.mv 0) 7,o4 9 (.len 8) 7,o4 10 (.bin .eql 9 (ci 0)) 7,o1 11 (.pick 7 (.const (.bool true)) 10)]) (.cond 11 (.seq (.reg [o1 12 (.build [(.int .i64 0),(.int .i64 0)] []),o2 (.st 2 2 12),o1 3 (.mv (.const (.bool false)))]) .ret) .skip)) (.seq (.reg [o1 13 (.mv 0),o1 14 (.call 87 [13]),o1 15 (.call 88 [14]),o1 16 (.iaddr 2 15 (ci 0)),o1 17 (.ld 2 true 16),o2 (.st 2 2 17),o1 3 (.mv (.const (.bool true)))]) .ret))),[(2,some (2,true)),(3,none)]⟩
theorem x57:xf Tryz.prog 57=some F57:=by kernel_rfl
theorem con57 {l:List Due} (hl:l.length≤10000):Con Tryz.prog 57 [.slv 2 (l.map encD)] (.tup [.agg (encD (dueFirst l).1),.bool (dueFirst l).2],[],[]):=by
  have hbl:(dueBy l).length≤l.length:=by have:=dueBy_len l []; simpa [dueBy] using this
  have hpl:(dueBy l).length≤100000:=by omega
  have hps:(dSort (dueBy l)).length=(dueBy l).length:=dSort_len _
  refine mcb_of_vc mix x57 (by simp [F57]) fun hw _=>?_
  clear hw
  have zd:=qD
  have zm:=qMp
  repeat' with_reducible first|refine gTn_of (fun h=>?_) (fun h=>?_)|refine gT_of (fun h=>?_) (fun h=>?_)|refine caseTn_of (fun h=>?_) (fun h=>?_)|refine caseT_of (fun h=>?_) (fun h=>?_)|refine FN ?_ ?_ ?_ ?_ rfl ?_|refine kv_ifn ?_ ?_|refine kv_if ?_ ?_|refine k_if ?_ ?_|refine IA ?_ ?_ ?_|refine L1 ?_ ?_|refine L2 ?_ ?_|refine L3 ?_ ?_ ?_ ?_|refine L4 ?_ ?_|refine L5 ?_ ?_ ?_ ?_ ?_|refine L6 ?_ ?_ ?_ ?_ ?_|refine AC.n1 (con87 ?_) ?_ (by simp -implicitDefEqProofs only [qU,pures,AV.pure,puress_map pure_encD,pl_d,pure_encD,Bool.and_true]; done) ?_|refine AC.p0 (con85 ?_) ?_ (by simp -implicitDefEqProofs only [qU,pures,AV.pure,puress_map pure_encD,pl_d,pure_encD,Bool.and_true]; done) ?_ ?_|refine AC.p0 (con86 ?_) ?_ (by simp -implicitDefEqProofs only [qU,pures,AV.pure,puress_map pure_encD,pl_d,pure_encD,Bool.and_true]; done) ?_ ?_|refine AC.mc _ (con88i ?_) ?_ (Nat.le_refl _) (by simp -implicitDefEqProofs only [qA,ld_0,ld_pv,st_0,splice,doEqs,qU,List.reduceReplicate,Nat.reduceAdd,Nat.reduceSub,Nat.reduceLeDiff,Nat.reduceEqDiff,Nat.reduceMul,reduceIte,reduceCtorEq,qI,Nat.reduceLT,Nat.reduceBEq,qM, *]; exact rfl) (by exact rfl) ?_ ?_ ?_ ?_ ?_|refine mu_d (by simp -implicitDefEqProofs only [m_get,Nat.reduceEqDiff,reduceIte,if_true,if_false]; first|done|exact rfl) ?_|refine ml_d (by simp -implicitDefEqProofs only [m_get,Nat.reduceEqDiff,reduceIte,if_true,if_false]; first|done|exact rfl) ?_|refine ia_of (d:=default) ?_ ?_|simp -implicitDefEqProofs only [F57,qA,ld_0,ld_pv,st_0,splice,doEqs,qU,List.reduceReplicate,Nat.reduceAdd,Nat.reduceSub,Nat.reduceLeDiff,Nat.reduceEqDiff,Nat.reduceMul,reduceIte,reduceCtorEq,qI,Nat.reduceLT,Nat.reduceBEq,up_s,Int.toNat_natCast,encT,v_invoke,ik_s,encD,up_m,upP,upN,qMp,Int.reduceEq,Int.reduceNe,Int.toNat_zero,Int.reduceToNat, *]
  all_goals first
    | omega
    | exact hpl
    | (have h9:=dueBy_pos (l:=l) (by simp only [decide_eq_false_iff_not] at *; omega)
       first | omega | (constructor <;> omega))
    | (refine Wk.of_eq ?_; unfold dueFirst; simp only [*,if_true,if_false,Bool.false_eq_true,reduceCtorEq,true_or,or_true,encD]; done)
    | (refine Wk.of_eq ?_
       have h9:l.length=0:=by have:=of_decide_eq_true (by assumption:decide ((l.length:Int)=0)=true); omega
       unfold dueFirst; rw [if_pos (.inr h9)])
    | (refine Wk.of_eq ?_
       have h9:¬ l.length=0:=by have:=of_decide_eq_false (by assumption:decide ((l.length:Int)=0)=false); omega
       have h8:¬ (dueCheck l=false∨l.length=0):=fun h7=>h7.elim (fun h7=>by rw [(by assumption:dueCheck l=true)] at h7; cases h7) h9
       unfold dueFirst; rw [if_neg h8])
    | trace_state

def F42:AFn:=⟨38,(.seq (.reg [o1 4 (.mv (.const .slnil)),o1 5 (.mv (.const .slnil))]) (.seq (.seq (.reg [o1 9 (.mv 0),o1 10 (.call 85 [9]),o1 11 (.not 10)]) (.cond 11 (.seq (.reg [o1 12 (.mv 0),o1 13 (.call 86 [12]),o1 4 (.mv (.const .slnil)),o1 5 (.mv 13)]) .ret) .skip)) (.seq (.reg [o1 14 (.mv 0),o1 15 (.call 87 [14]),o1 6 (.mv 15)]) (.seq (.seq (.reg [o1 16 (.mv 0),o1 17 (.len 16),o1 18 (.mv (ci 0))]) (.block 0 (.loop (.seq (.reg [o1 19 (.bin .lss 18 17)]) (.seq (.cond 19 .skip (.exit 0)) (.seq (.block 1 (.seq (.reg [o1 20 (.iaddr 2 16 18),o1 21 (.ld 2 true 20),o1 8 (.alloc 51 [(.int .i64 0),(.int .i64 0)]),o2 (.st 2 8 21)]) (.seq (.reg [o1 22 (.faddr 0 8),o1 23 (.ld 1 false 22),o1 24 (.mv 1),o1 25 (.bin .leq 23 24)]) (.cond 25 (.seq (.reg [o1 26 (.mv 4),o1 27 (.faddr 1 8),o1 28 (.ld 1 false 27),o1 29 (.bslice 3 1 1 [28]),o1 30 (.app 3 1 8 26 29),o1 4 (.mv 30)]) (.reg [o1 31 (.mv 6),o1 32 (.faddr 1 8),o1 33 (.ld 1 false 32),o2 (.mdel 31 33)])) .skip)))) (.reg [o1 34 (.bin .add 18 (ci 1)),o1 18 (.mv 34)]))))))) (.seq (.reg [o1 35 (.mv 4),o1 36 (.mv 6),o1 37 (.call 88 [36]),o1 4 (.mv 35),o1 5 (.mv 37)]) .ret))))),[(4,none),(5,none)]⟩
theorem x42:xf Tryz.prog 42=some F42:=by kernel_rfl
theorem con42 {l:List Due} {now:Int} (hl:l.length≤10000):Con Tryz.prog 42 [.slv 2 (l.map encD),.int .i64 now] (.tup [.slv 1 ((dueLate l now).1.map encI),.slv 2 ((dueLate l now).2.map encD)],[],[]):=by
  have hbl:(dueBy l).length≤l.length:=by have:=dueBy_len l []; simpa [dueBy] using this
  have hpl:(lateMap l (dueBy l) now).length≤100000:=by have:=lateMap_len l (dueBy l) now; omega
  have e0:lateIds [] now=[]:=rfl
  have e1:lateMap [] (dueBy l) now=dueBy l:=rfl
  refine mcb_of_vc mix x42 (by simp [F42]) fun hw _=>?_
  clear hw
  have zd:=qD
  have zm:=qMp
  repeat' with_reducible first|refine gTn_of (fun h=>?_) (fun h=>?_)|refine gT_of (fun h=>?_) (fun h=>?_)|refine caseTn_of (fun h=>?_) (fun h=>?_)|refine caseT_of (fun h=>?_) (fun h=>?_)|refine FN ?_ ?_ ?_ ?_ rfl ?_|refine kv_ifn ?_ ?_|refine kv_if ?_ ?_|refine k_if ?_ ?_|refine IA ?_ ?_ ?_|refine L1 ?_ ?_|refine L2 ?_ ?_|refine L3 ?_ ?_ ?_ ?_|refine L4 ?_ ?_|refine L5 ?_ ?_ ?_ ?_ ?_|refine L6 ?_ ?_ ?_ ?_ ?_|refine AC.n1 (con87 ?_) ?_ (by simp -implicitDefEqProofs only [qU,pures,AV.pure,puress_map pure_encD,pl_d,pure_encD,Bool.and_true]; done) ?_|refine AC.p0 (con85 ?_) ?_ (by simp -implicitDefEqProofs only [qU,pures,AV.pure,puress_map pure_encD,pl_d,pure_encD,Bool.and_true]; done) ?_ ?_|refine AC.p0 (con86 ?_) ?_ (by simp -implicitDefEqProofs only [qU,pures,AV.pure,puress_map pure_encD,pl_d,pure_encD,Bool.and_true]; done) ?_ ?_|refine AC.mc _ (con88i ?_) ?_ (Nat.le_refl _) (by simp -implicitDefEqProofs only [qA,ld_0,ld_pv,st_0,splice,doEqs,qU,List.reduceReplicate,Nat.reduceAdd,Nat.reduceSub,Nat.reduceLeDiff,Nat.reduceEqDiff,Nat.reduceMul,reduceIte,reduceCtorEq,qI,Nat.reduceLT,Nat.reduceBEq,qM, *]; exact rfl) (by exact rfl) ?_ ?_ ?_ ?_ ?_|refine mu_d (by simp -implicitDefEqProofs only [m_get,Nat.reduceEqDiff,reduceIte,if_true,if_false]; first|done|exact rfl) ?_|refine ml_d (by simp -implicitDefEqProofs only [m_get,Nat.reduceEqDiff,reduceIte,if_true,if_false]; first|done|exact rfl) ?_|refine ia_of (d:=default) ?_ ?_|refine ap_nil (rw_slm _ _ _ _ _ _ (by simp -implicitDefEqProofs only [m_get,Nat.reduceEqDiff,reduceIte,if_true,if_false]; first|done|exact rfl) ?_) ?_ ?_ ?_ ?_|refine ap_of (rw_slm _ _ _ _ _ _ (by simp -implicitDefEqProofs only [m_get,Nat.reduceEqDiff,reduceIte,if_true,if_false]; first|done|exact rfl) ?_) (by simp -implicitDefEqProofs only [m_get,Nat.reduceEqDiff,reduceIte,if_true,if_false]; first|done|exact rfl) ?_ ?_ ?_ ?_|refine md_d (by simp -implicitDefEqProofs only [m_get,Nat.reduceEqDiff,reduceIte,if_true,if_false]; first|done|exact rfl) ?_|simp -implicitDefEqProofs only [F42,qA,ld_0,ld_pv,st_0,splice,doEqs,qU,List.reduceReplicate,Nat.reduceAdd,Nat.reduceSub,Nat.reduceLeDiff,Nat.reduceEqDiff,Nat.reduceMul,reduceIte,reduceCtorEq,qI,Nat.reduceLT,Nat.reduceBEq,up_s,Int.toNat_natCast,encT,v_invoke,ik_s,encD,up_m,upP,upN,qMp,Int.reduceEq,Int.reduceNe,nl_s,nl_0,lm_normal,lm_exit,lm_ret,doBslice,encI,trss_append,List.map_append, *]
  all_goals first
    | refine lm_of 5 (fun i:Nat=>some (.slv 2 (l.map encD)) :: some (.int .i64 now) :: nl 2 (some (if lateIds (l.take i) now=[] then .slnil else .slm 3 (lateIds (l.take i) now).length) :: some (.slnil) :: some (.mapm 2) :: nl 9 (some (.slv 2 (l.map encD)) :: some (.int .i64 l.length) :: some (.int .i64 i) :: nl 19 []))) (fun i=>if lateIds (l.take i) now=[] then [(2,.mp ((lateMap (l.take i) (dueBy l) now).map entD))] else [(2,.mp ((lateMap (l.take i) (dueBy l) now).map entD)),(3,.rows 3 1 ((lateIds (l.take i) now).map encI))]) (fun i=>i≤l.length) (fun i=>l.length - i) [] [(97,2)] 0 (by omega) ?_ ?_ ?_ ?_ ?_ ?_
    | omega
    | (unfold dueLate; rw [if_pos (by assumption)]; exact Wk.tup ⟨Wk.nil 1,fun _=>rfl,Wk.refl _,fun _=>rfl,trivial⟩)
    | trace_state
  rotate_right
  · clear e0 e1
    intro i hi
    have hx:(dueCheck l)=true:=by assumption
    have hil:=lateIds_len (l.take i) now
    rw [List.length_take] at hil
    simp only [all_some,all_none,all_nil,nl_s,nl_0]
    intros
    rcases Nat.lt_or_eq_of_le hi with hlt | heq
    · have hd:((i:Int)<(l.length:Int))=True:=by simp; omega
      by_cases hk:(l.getD i default).tm≤now
      · have hs:=lateMap_y (m:=dueBy l) hlt hk
        have hs2:=lateIds_y hlt hk
        by_cases hne:lateIds (l.take i) now=[]
        · have hs3:¬ lateIds (l.take (i+1)) now=[]:=by rw [hs2]; simp
          rw [hne,List.nil_append] at hs2
          simp only [hne,if_true]
          repeat' with_reducible first|refine gTn_of (fun h=>?_) (fun h=>?_)|refine gT_of (fun h=>?_) (fun h=>?_)|refine caseTn_of (fun h=>?_) (fun h=>?_)|refine caseT_of (fun h=>?_) (fun h=>?_)|refine FN ?_ ?_ ?_ ?_ rfl ?_|refine kv_ifn ?_ ?_|refine kv_if ?_ ?_|refine k_if ?_ ?_|refine IA ?_ ?_ ?_|refine L1 ?_ ?_|refine L2 ?_ ?_|refine L3 ?_ ?_ ?_ ?_|refine L4 ?_ ?_|refine L5 ?_ ?_ ?_ ?_ ?_|refine L6 ?_ ?_ ?_ ?_ ?_|refine AC.n1 (con87 ?_) ?_ (by simp -implicitDefEqProofs only [qU,pures,AV.pure,puress_map pure_encD,pl_d,pure_encD,Bool.and_true]; done) ?_|refine AC.p0 (con85 ?_) ?_ (by simp -implicitDefEqProofs only [qU,pures,AV.pure,puress_map pure_encD,pl_d,pure_encD,Bool.and_true]; done) ?_ ?_|refine AC.p0 (con86 ?_) ?_ (by simp -implicitDefEqProofs only [qU,pures,AV.pure,puress_map pure_encD,pl_d,pure_encD,Bool.and_true]; done) ?_ ?_|refine AC.mc _ (con88i ?_) ?_ (Nat.le_refl _) (by simp -implicitDefEqProofs only [qA,ld_0,ld_pv,st_0,splice,doEqs,qU,List.reduceReplicate,Nat.reduceAdd,Nat.reduceSub,Nat.reduceLeDiff,Nat.reduceEqDiff,Nat.reduceMul,reduceIte,reduceCtorEq,qI,Nat.reduceLT,Nat.reduceBEq,qM, *]; exact rfl) (by exact rfl) ?_ ?_ ?_ ?_ ?_|refine mu_d (by simp -implicitDefEqProofs only [m_get,Nat.reduceEqDiff,reduceIte,if_true,if_false]; first|done|exact rfl) ?_|refine ml_d (by simp -implicitDefEqProofs only [m_get,Nat.reduceEqDiff,reduceIte,if_true,if_false]; first|done|exact rfl) ?_|refine ia_of (d:=default) ?_ ?_|refine ap_nil (rw_slm _ _ _ _ _ _ (by simp -implicitDefEqProofs only [m_get,Nat.reduceEqDiff,reduceIte,if_true,if_false]; first|done|exact rfl) ?_) ?_ ?_ ?_ ?_|refine ap_of (rw_slm _ _ _ _ _ _ (by simp -implicitDefEqProofs only [m_get,Nat.reduceEqDiff,reduceIte,if_true,if_false]; first|done|exact rfl) ?_) (by simp -implicitDefEqProofs only [m_get,Nat.reduceEqDiff,reduceIte,if_true,if_false]; first|done|exact rfl) ?_ ?_ ?_ ?_|refine md_d (by simp -implicitDefEqProofs only [m_get,Nat.reduceEqDiff,reduceIte,if_true,if_false]; first|done|exact rfl) ?_|refine rm_of [] [(2,2),(213,3)] (i+1) ?_ ?_ ?_ ?_ ?_ ?_|simp -implicitDefEqProofs only [F42,qA,ld_0,ld_pv,st_0,splice,doEqs,qU,List.reduceReplicate,Nat.reduceAdd,Nat.reduceSub,Nat.reduceLeDiff,Nat.reduceEqDiff,Nat.reduceMul,reduceIte,reduceCtorEq,qI,Nat.reduceLT,Nat.reduceBEq,up_s,Int.toNat_natCast,encT,v_invoke,ik_s,encD,up_m,upP,upN,qMp,Int.reduceEq,Int.reduceNe,nl_s,nl_0,lm_normal,lm_exit,lm_ret,doBslice,encI,trss_append,List.map_append, *]
          all_goals first
            | omega
            | rfl
            | (rw [wrap64 (by omega) (by omega)]; omega)
            | trace_state
        · have hs4:(lateIds (l.take i) now ++ [(l.getD i default).id]=[])=False:=by simp
          simp only [if_neg hne]
          repeat' with_reducible first|refine gTn_of (fun h=>?_) (fun h=>?_)|refine gT_of (fun h=>?_) (fun h=>?_)|refine caseTn_of (fun h=>?_) (fun h=>?_)|refine caseT_of (fun h=>?_) (fun h=>?_)|refine FN ?_ ?_ ?_ ?_ rfl ?_|refine kv_ifn ?_ ?_|refine kv_if ?_ ?_|refine k_if ?_ ?_|refine IA ?_ ?_ ?_|refine L1 ?_ ?_|refine L2 ?_ ?_|refine L3 ?_ ?_ ?_ ?_|refine L4 ?_ ?_|refine L5 ?_ ?_ ?_ ?_ ?_|refine L6 ?_ ?_ ?_ ?_ ?_|refine AC.n1 (con87 ?_) ?_ (by simp -implicitDefEqProofs only [qU,pures,AV.pure,puress_map pure_encD,pl_d,pure_encD,Bool.and_true]; done) ?_|refine AC.p0 (con85 ?_) ?_ (by simp -implicitDefEqProofs only [qU,pures,AV.pure,puress_map pure_encD,pl_d,pure_encD,Bool.and_true]; done) ?_ ?_|refine AC.p0 (con86 ?_) ?_ (by simp -implicitDefEqProofs only [qU,pures,AV.pure,puress_map pure_encD,pl_d,pure_encD,Bool.and_true]; done) ?_ ?_|refine AC.mc _ (con88i ?_) ?_ (Nat.le_refl _) (by simp -implicitDefEqProofs only [qA,ld_0,ld_pv,st_0,splice,doEqs,qU,List.reduceReplicate,Nat.reduceAdd,Nat.reduceSub,Nat.reduceLeDiff,Nat.reduceEqDiff,Nat.reduceMul,reduceIte,reduceCtorEq,qI,Nat.reduceLT,Nat.reduceBEq,qM, *]; exact rfl) (by exact rfl) ?_ ?_ ?_ ?_ ?_|refine mu_d (by simp -implicitDefEqProofs only [m_get,Nat.reduceEqDiff,reduceIte,if_true,if_false]; first|done|exact rfl) ?_|refine ml_d (by simp -implicitDefEqProofs only [m_get,Nat.reduceEqDiff,reduceIte,if_true,if_false]; first|done|exact rfl) ?_|refine ia_of (d:=default) ?_ ?_|refine ap_nil (rw_slm _ _ _ _ _ _ (by simp -implicitDefEqProofs only [m_get,Nat.reduceEqDiff,reduceIte,if_true,if_false]; first|done|exact rfl) ?_) ?_ ?_ ?_ ?_|refine ap_of (rw_slm _ _ _ _ _ _ (by simp -implicitDefEqProofs only [m_get,Nat.reduceEqDiff,reduceIte,if_true,if_false]; first|done|exact rfl) ?_) (by simp -implicitDefEqProofs only [m_get,Nat.reduceEqDiff,reduceIte,if_true,if_false]; first|done|exact rfl) ?_ ?_ ?_ ?_|refine md_d (by simp -implicitDefEqProofs only [m_get,Nat.reduceEqDiff,reduceIte,if_true,if_false]; first|done|exact rfl) ?_|refine rm_of [] [(2,2),(213,3)] (i+1) ?_ ?_ ?_ ?_ ?_ ?_|simp -implicitDefEqProofs only [F42,qA,ld_0,ld_pv,st_0,splice,doEqs,qU,List.reduceReplicate,Nat.reduceAdd,Nat.reduceSub,Nat.reduceLeDiff,Nat.reduceEqDiff,Nat.reduceMul,reduceIte,reduceCtorEq,qI,Nat.reduceLT,Nat.reduceBEq,up_s,Int.toNat_natCast,encT,v_invoke,ik_s,encD,up_m,upP,upN,qMp,Int.reduceEq,Int.reduceNe,nl_s,nl_0,lm_normal,lm_exit,lm_ret,doBslice,encI,trss_append,List.map_append, *]
          all_goals first
            | omega
            | rfl
            | (rw [wrap64 (by omega) (by omega)]; omega)
            | trace_state
      · have hs:=lateMap_n (m:=dueBy l) hlt hk
        have hs2:=lateIds_n hlt hk
        by_cases hne:lateIds (l.take i) now=[]
        · have hs3:lateIds (l.take (i+1)) now=[]:=by rw [hs2]; exact hne
          clear hs2
          simp only [hne,if_true]
          repeat' with_reducible first|refine gTn_of (fun h=>?_) (fun h=>?_)|refine gT_of (fun h=>?_) (fun h=>?_)|refine caseTn_of (fun h=>?_) (fun h=>?_)|refine caseT_of (fun h=>?_) (fun h=>?_)|refine FN ?_ ?_ ?_ ?_ rfl ?_|refine kv_ifn ?_ ?_|refine kv_if ?_ ?_|refine k_if ?_ ?_|refine IA ?_ ?_ ?_|refine L1 ?_ ?_|refine L2 ?_ ?_|refine L3 ?_ ?_ ?_ ?_|refine L4 ?_ ?_|refine L5 ?_ ?_ ?_ ?_ ?_|refine L6 ?_ ?_ ?_ ?_ ?_|refine AC.n1 (con87 ?_) ?_ (by simp -implicitDefEqProofs only [qU,pures,AV.pure,puress_map pure_encD,pl_d,pure_encD,Bool.and_true]; done) ?_|refine AC.p0 (con85 ?_) ?_ (by simp -implicitDefEqProofs only [qU,pures,AV.pure,puress_map pure_encD,pl_d,pure_encD,Bool.and_true]; done) ?_ ?_|refine AC.p0 (con86 ?_) ?_ (by simp -implicitDefEqProofs only [qU,pures,AV.pure,puress_map pure_encD,pl_d,pure_encD,Bool.and_true]; done) ?_ ?_|refine AC.mc _ (con88i ?_) ?_ (Nat.le_refl _) (by simp -implicitDefEqProofs only [qA,ld_0,ld_pv,st_0,splice,doEqs,qU,List.reduceReplicate,Nat.reduceAdd,Nat.reduceSub,Nat.reduceLeDiff,Nat.reduceEqDiff,Nat.reduceMul,reduceIte,reduceCtorEq,qI,Nat.reduceLT,Nat.reduceBEq,qM, *]; exact rfl) (by exact rfl) ?_ ?_ ?_ ?_ ?_|refine mu_d (by simp -implicitDefEqProofs only [m_get,Nat.reduceEqDiff,reduceIte,if_true,if_false]; first|done|exact rfl) ?_|refine ml_d (by simp -implicitDefEqProofs only [m_get,Nat.reduceEqDiff,reduceIte,if_true,if_false]; first|done|exact rfl) ?_|refine ia_of (d:=default) ?_ ?_|refine ap_nil (rw_slm _ _ _ _ _ _ (by simp -implicitDefEqProofs only [m_get,Nat.reduceEqDiff,reduceIte,if_true,if_false]; first|done|exact rfl) ?_) ?_ ?_ ?_ ?_|refine ap_of (rw_slm _ _ _ _ _ _ (by simp -implicitDefEqProofs only [m_get,Nat.reduceEqDiff,reduceIte,if_true,if_false]; first|done|exact rfl) ?_) (by simp -implicitDefEqProofs only [m_get,Nat.reduceEqDiff,reduceIte,if_true,if_false]; first|done|exact rfl) ?_ ?_ ?_ ?_|refine md_d (by simp -implicitDefEqProofs only [m_get,Nat.reduceEqDiff,reduceIte,if_true,if_false]; first|done|exact rfl) ?_|refine rm_of [] [(2,2)] (i+1) ?_ ?_ ?_ ?_ ?_ ?_|simp -implicitDefEqProofs only [F42,qA,ld_0,ld_pv,st_0,splice,doEqs,qU,List.reduceReplicate,Nat.reduceAdd,Nat.reduceSub,Nat.reduceLeDiff,Nat.reduceEqDiff,Nat.reduceMul,reduceIte,reduceCtorEq,qI,Nat.reduceLT,Nat.reduceBEq,up_s,Int.toNat_natCast,encT,v_invoke,ik_s,encD,up_m,upP,upN,qMp,Int.reduceEq,Int.reduceNe,nl_s,nl_0,lm_normal,lm_exit,lm_ret,doBslice,encI,trss_append,List.map_append, *]
          all_goals first
            | omega
            | rfl
            | (rw [wrap64 (by omega) (by omega)]; omega)
            | trace_state
        · simp only [if_neg hne]
          repeat' with_reducible first|refine gTn_of (fun h=>?_) (fun h=>?_)|refine gT_of (fun h=>?_) (fun h=>?_)|refine caseTn_of (fun h=>?_) (fun h=>?_)|refine caseT_of (fun h=>?_) (fun h=>?_)|refine FN ?_ ?_ ?_ ?_ rfl ?_|refine kv_ifn ?_ ?_|refine kv_if ?_ ?_|refine k_if ?_ ?_|refine IA ?_ ?_ ?_|refine L1 ?_ ?_|refine L2 ?_ ?_|refine L3 ?_ ?_ ?_ ?_|refine L4 ?_ ?_|refine L5 ?_ ?_ ?_ ?_ ?_|refine L6 ?_ ?_ ?_ ?_ ?_|refine AC.n1 (con87 ?_) ?_ (by simp -implicitDefEqProofs only [qU,pures,AV.pure,puress_map pure_encD,pl_d,pure_encD,Bool.and_true]; done) ?_|refine AC.p0 (con85 ?_) ?_ (by simp -implicitDefEqProofs only [qU,pures,AV.pure,puress_map pure_encD,pl_d,pure_encD,Bool.and_true]; done) ?_ ?_|refine AC.p0 (con86 ?_) ?_ (by simp -implicitDefEqProofs only [qU,pures,AV.pure,puress_map pure_encD,pl_d,pure_encD,Bool.and_true]; done) ?_ ?_|refine AC.mc _ (con88i ?_) ?_ (Nat.le_refl _) (by simp -implicitDefEqProofs only [qA,ld_0,ld_pv,st_0,splice,doEqs,qU,List.reduceReplicate,Nat.reduceAdd,Nat.reduceSub,Nat.reduceLeDiff,Nat.reduceEqDiff,Nat.reduceMul,reduceIte,reduceCtorEq,qI,Nat.reduceLT,Nat.reduceBEq,qM, *]; exact rfl) (by exact rfl) ?_ ?_ ?_ ?_ ?_|refine mu_d (by simp -implicitDefEqProofs only [m_get,Nat.reduceEqDiff,reduceIte,if_true,if_false]; first|done|exact rfl) ?_|refine ml_d (by simp -implicitDefEqProofs only [m_get,Nat.reduceEqDiff,reduceIte,if_true,if_false]; first|done|exact rfl) ?_|refine ia_of (d:=default) ?_ ?_|refine ap_nil (rw_slm _ _ _ _ _ _ (by simp -implicitDefEqProofs only [m_get,Nat.reduceEqDiff,reduceIte,if_true,if_false]; first|done|exact rfl) ?_) ?_ ?_ ?_ ?_|refine ap_of (rw_slm _ _ _ _ _ _ (by simp -implicitDefEqProofs only [m_get,Nat.reduceEqDiff,reduceIte,if_true,if_false]; first|done|exact rfl) ?_) (by simp -implicitDefEqProofs only [m_get,Nat.reduceEqDiff,reduceIte,if_true,if_false]; first|done|exact rfl) ?_ ?_ ?_ ?_|refine md_d (by simp -implicitDefEqProofs only [m_get,Nat.reduceEqDiff,reduceIte,if_true,if_false]; first|done|exact rfl) ?_|refine rm_of [] [(2,2),(3,3)] (i+1) ?_ ?_ ?_ ?_ ?_ ?_|simp -implicitDefEqProofs only [F42,qA,ld_0,ld_pv,st_0,splice,doEqs,qU,List.reduceReplicate,Nat.reduceAdd,Nat.reduceSub,Nat.reduceLeDiff,Nat.reduceEqDiff,Nat.reduceMul,reduceIte,reduceCtorEq,qI,Nat.reduceLT,Nat.reduceBEq,up_s,Int.toNat_natCast,encT,v_invoke,ik_s,encD,up_m,upP,upN,qMp,Int.reduceEq,Int.reduceNe,nl_s,nl_0,lm_normal,lm_exit,lm_ret,doBslice,encI,trss_append,List.map_append, *]
          all_goals first
            | omega
            | rfl
            | (rw [wrap64 (by omega) (by omega)]; omega)
            | trace_state
    · have hd : ((i:Int)<(l.length:Int))=False:=by simp; omega
      have hg:_root_.id (i=l.length):=heq
      clear heq
      have hpl2:(lateMap (l.take i) (dueBy l) now).length≤100000:=by obtain rfl:i=l.length:=hg; rw [List.take_length]; exact hpl
      by_cases hne:lateIds (l.take i) now=[]
      · simp only [hne,if_true]
        repeat' with_reducible first|refine gTn_of (fun h=>?_) (fun h=>?_)|refine gT_of (fun h=>?_) (fun h=>?_)|refine caseTn_of (fun h=>?_) (fun h=>?_)|refine caseT_of (fun h=>?_) (fun h=>?_)|refine FN ?_ ?_ ?_ ?_ rfl ?_|refine kv_ifn ?_ ?_|refine kv_if ?_ ?_|refine k_if ?_ ?_|refine IA ?_ ?_ ?_|refine L1 ?_ ?_|refine L2 ?_ ?_|refine L3 ?_ ?_ ?_ ?_|refine L4 ?_ ?_|refine L5 ?_ ?_ ?_ ?_ ?_|refine L6 ?_ ?_ ?_ ?_ ?_|refine AC.n1 (con87 ?_) ?_ (by simp -implicitDefEqProofs only [qU,pures,AV.pure,puress_map pure_encD,pl_d,pure_encD,Bool.and_true]; done) ?_|refine AC.p0 (con85 ?_) ?_ (by simp -implicitDefEqProofs only [qU,pures,AV.pure,puress_map pure_encD,pl_d,pure_encD,Bool.and_true]; done) ?_ ?_|refine AC.p0 (con86 ?_) ?_ (by simp -implicitDefEqProofs only [qU,pures,AV.pure,puress_map pure_encD,pl_d,pure_encD,Bool.and_true]; done) ?_ ?_|refine AC.mc _ (con88i ?_) ?_ (Nat.le_refl _) (by simp -implicitDefEqProofs only [qA,ld_0,ld_pv,st_0,splice,doEqs,qU,List.reduceReplicate,Nat.reduceAdd,Nat.reduceSub,Nat.reduceLeDiff,Nat.reduceEqDiff,Nat.reduceMul,reduceIte,reduceCtorEq,qI,Nat.reduceLT,Nat.reduceBEq,qM, *]; exact rfl) (by exact rfl) ?_ ?_ ?_ ?_ ?_|refine mu_d (by simp -implicitDefEqProofs only [m_get,Nat.reduceEqDiff,reduceIte,if_true,if_false]; first|done|exact rfl) ?_|refine ml_d (by simp -implicitDefEqProofs only [m_get,Nat.reduceEqDiff,reduceIte,if_true,if_false]; first|done|exact rfl) ?_|refine ia_of (d:=default) ?_ ?_|refine ap_nil (rw_slm _ _ _ _ _ _ (by simp -implicitDefEqProofs only [m_get,Nat.reduceEqDiff,reduceIte,if_true,if_false]; first|done|exact rfl) ?_) ?_ ?_ ?_ ?_|refine ap_of (rw_slm _ _ _ _ _ _ (by simp -implicitDefEqProofs only [m_get,Nat.reduceEqDiff,reduceIte,if_true,if_false]; first|done|exact rfl) ?_) (by simp -implicitDefEqProofs only [m_get,Nat.reduceEqDiff,reduceIte,if_true,if_false]; first|done|exact rfl) ?_ ?_ ?_ ?_|refine md_d (by simp -implicitDefEqProofs only [m_get,Nat.reduceEqDiff,reduceIte,if_true,if_false]; first|done|exact rfl) ?_|simp -implicitDefEqProofs only [F42,qA,ld_0,ld_pv,st_0,splice,doEqs,qU,List.reduceReplicate,Nat.reduceAdd,Nat.reduceSub,Nat.reduceLeDiff,Nat.reduceEqDiff,Nat.reduceMul,reduceIte,reduceCtorEq,qI,Nat.reduceLT,Nat.reduceBEq,up_s,Int.toNat_natCast,encT,v_invoke,ik_s,encD,up_m,upP,upN,qMp,Int.reduceEq,Int.reduceNe,nl_s,nl_0,lm_normal,lm_exit,lm_ret,doBslice,encI,trss_append,List.map_append, *]
        all_goals first
          | omega
          | exact hpl2
          | (obtain rfl:i=l.length:=hg
             rw [List.take_length] at *
             unfold dueLate; rw [if_neg (by rw [hx]; decide),hne]
             exact Wk.tup ⟨Wk.nil 1,fun _=>rfl,Wk.refl _,fun _=>rfl,trivial⟩)
          | trace_state
      · simp only [if_neg hne]
        repeat' with_reducible first|refine gTn_of (fun h=>?_) (fun h=>?_)|refine gT_of (fun h=>?_) (fun h=>?_)|refine caseTn_of (fun h=>?_) (fun h=>?_)|refine caseT_of (fun h=>?_) (fun h=>?_)|refine FN ?_ ?_ ?_ ?_ rfl ?_|refine kv_ifn ?_ ?_|refine kv_if ?_ ?_|refine k_if ?_ ?_|refine IA ?_ ?_ ?_|refine L1 ?_ ?_|refine L2 ?_ ?_|refine L3 ?_ ?_ ?_ ?_|refine L4 ?_ ?_|refine L5 ?_ ?_ ?_ ?_ ?_|refine L6 ?_ ?_ ?_ ?_ ?_|refine AC.n1 (con87 ?_) ?_ (by simp -implicitDefEqProofs only [qU,pures,AV.pure,puress_map pure_encD,pl_d,pure_encD,Bool.and_true]; done) ?_|refine AC.p0 (con85 ?_) ?_ (by simp -implicitDefEqProofs only [qU,pures,AV.pure,puress_map pure_encD,pl_d,pure_encD,Bool.and_true]; done) ?_ ?_|refine AC.p0 (con86 ?_) ?_ (by simp -implicitDefEqProofs only [qU,pures,AV.pure,puress_map pure_encD,pl_d,pure_encD,Bool.and_true]; done) ?_ ?_|refine AC.mc _ (con88i ?_) ?_ (Nat.le_refl _) (by simp -implicitDefEqProofs only [qA,ld_0,ld_pv,st_0,splice,doEqs,qU,List.reduceReplicate,Nat.reduceAdd,Nat.reduceSub,Nat.reduceLeDiff,Nat.reduceEqDiff,Nat.reduceMul,reduceIte,reduceCtorEq,qI,Nat.reduceLT,Nat.reduceBEq,qM, *]; exact rfl) (by exact rfl) ?_ ?_ ?_ ?_ ?_|refine mu_d (by simp -implicitDefEqProofs only [m_get,Nat.reduceEqDiff,reduceIte,if_true,if_false]; first|done|exact rfl) ?_|refine ml_d (by simp -implicitDefEqProofs only [m_get,Nat.reduceEqDiff,reduceIte,if_true,if_false]; first|done|exact rfl) ?_|refine ia_of (d:=default) ?_ ?_|refine ap_nil (rw_slm _ _ _ _ _ _ (by simp -implicitDefEqProofs only [m_get,Nat.reduceEqDiff,reduceIte,if_true,if_false]; first|done|exact rfl) ?_) ?_ ?_ ?_ ?_|refine ap_of (rw_slm _ _ _ _ _ _ (by simp -implicitDefEqProofs only [m_get,Nat.reduceEqDiff,reduceIte,if_true,if_false]; first|done|exact rfl) ?_) (by simp -implicitDefEqProofs only [m_get,Nat.reduceEqDiff,reduceIte,if_true,if_false]; first|done|exact rfl) ?_ ?_ ?_ ?_|refine md_d (by simp -implicitDefEqProofs only [m_get,Nat.reduceEqDiff,reduceIte,if_true,if_false]; first|done|exact rfl) ?_|simp -implicitDefEqProofs only [F42,qA,ld_0,ld_pv,st_0,splice,doEqs,qU,List.reduceReplicate,Nat.reduceAdd,Nat.reduceSub,Nat.reduceLeDiff,Nat.reduceEqDiff,Nat.reduceMul,reduceIte,reduceCtorEq,qI,Nat.reduceLT,Nat.reduceBEq,up_s,Int.toNat_natCast,encT,v_invoke,ik_s,encD,up_m,upP,upN,qMp,Int.reduceEq,Int.reduceNe,nl_s,nl_0,lm_normal,lm_exit,lm_ret,doBslice,encI,trss_append,List.map_append, *]
        all_goals first
          | omega
          | exact hpl2
          | (obtain rfl:i=l.length:=hg
             rw [List.take_length]
             unfold dueLate; rw [if_neg (by rw [hx]; decide)]
             exact Wk.refl _)
          | trace_state
  all_goals first
    | omega
    | (simp only [List.take_zero,e0,e1,if_true,stM,nameT,lk,mp_tr,List.contains_nil,Bool.false_eq_true,if_false]; simp; done)
    | (simp only [List.take_zero,e0,e1,if_true]; simp -implicitDefEqProofs only [qA,ld_0,ld_pv,st_0,splice,doEqs,qU,List.reduceReplicate,Nat.reduceAdd,Nat.reduceSub,Nat.reduceLeDiff,Nat.reduceEqDiff,Nat.reduceMul,reduceIte,reduceCtorEq,qI,Nat.reduceLT,Nat.reduceBEq,qZ,nl_s,nl_0,qD,qMp,e0,e1]; first | done | (simp; done))
    | (simp -implicitDefEqProofs only [qA,ld_0,ld_pv,st_0,splice,doEqs,qU,List.reduceReplicate,Nat.reduceAdd,Nat.reduceSub,Nat.reduceLeDiff,Nat.reduceEqDiff,Nat.reduceMul,reduceIte,reduceCtorEq,qI,Nat.reduceLT,Nat.reduceBEq,qZ,nl_s,nl_0,qD,qMp,e0,e1]; first | done | exact rfl | (simp; done))
    | trace_state

end Go.Sak
