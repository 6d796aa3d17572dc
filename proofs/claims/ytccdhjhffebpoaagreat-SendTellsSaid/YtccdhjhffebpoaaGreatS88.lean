/- Part S88 of the proofs about the program: K115, K116. Conditions: none. -/
import Derived.Test.YtccdhjhffebpoaaGreatS87
import Derived.Test.YtccdhjhffebpoaaGreatS30
import Derived.Test.YtccdhjhffebpoaaGreatS04
import Derived.Test.YtccdhjhffebpoaaGreatProg
import Derived.KernelRfl
namespace Go.Sak
open Go Go.RowKit Go.Proofs
set_option linter.unusedVariables false
set_option linter.unusedSimpArgs false
set_option maxRecDepth 10000
set_option maxHeartbeats 8000000
theorem con21 {s:State} {id:Int} (hb:Bd s 1000000):Con Tryz.prog 21 [.agg (encZ s),.int .i64 id] (.agg (encZ (sStep s id)),[],[]):=by
  have hb':=hb
  unfold Bd at hb'
  by_cases hI:sIs s id=true
  · have hp:=pc_of (s:=s) (id:=id) (sIs_fab hI)
    simp only [me] at hp
    have hs:sStep s id=(match (s.threads.getD id.toNat default).pc.toNat with | 0=>sEnter s id | 1=>sFirst s id | 2=>sLook s id | 3=>sWrite s id | 4=>sAccept s id | 5=>sPrepare s id | 6=>sNotify s id | 7=>sAgain s id | 8=>sCommit s id | 9=>sLeave s id | 10=>sEvict s id | 11=>sRelease s id | _=>s):=by
      unfold sStep
      rw [if_neg (by simp [hI])]
      rfl
    rw [hs]
    have hc:(s.threads.getD id.toNat default).pc=0∨(s.threads.getD id.toNat default).pc=1∨(s.threads.getD id.toNat default).pc=2∨(s.threads.getD id.toNat default).pc=3∨(s.threads.getD id.toNat default).pc=4∨(s.threads.getD id.toNat default).pc=5∨(s.threads.getD id.toNat default).pc=6∨(s.threads.getD id.toNat default).pc=7∨(s.threads.getD id.toNat default).pc=8∨(s.threads.getD id.toNat default).pc=9∨(s.threads.getD id.toNat default).pc=10∨(s.threads.getD id.toNat default).pc=11:=by omega
    rcases hc with hc | hc | hc | hc | hc | hc | hc | hc | hc | hc | hc | hc
    · rw [hc]; exact con21_0 hb hI hc
    · rw [hc]; exact con21_1 hb hI hc
    · rw [hc]; exact con21_2 hb hI hc
    · rw [hc]; exact con21_3 hb hI hc
    · rw [hc]; exact con21_4 hb hI hc
    · rw [hc]; exact con21_5 hb hI hc
    · rw [hc]; exact con21_6 hb hI hc
    · rw [hc]; exact con21_7 hb hI hc
    · rw [hc]; exact con21_8 hb hI hc
    · rw [hc]; exact con21_9 hb hI hc
    · rw [hc]; exact con21_10 hb hI hc
    · rw [hc]; exact con21_11 hb hI hc
  · have hs:sStep s id=s:=by unfold sStep; rw [if_pos (by simp [hI])]
    rw [hs]
    have hI':sIs s id=false:=by simpa using hI
    have hT:s.threads.length≤100000000:=by omega
    refine mcb_of_vc mix x21 (by simp [F21]) fun hw _=>?_
    clear hw hs hI
    repeat' with_reducible first|refine gTn_of (fun h=>?_) (fun h=>?_)|refine gT_of (fun h=>?_) (fun h=>?_)|refine caseTn_of (fun h=>?_) (fun h=>?_)|refine caseT_of (fun h=>?_) (fun h=>?_)|refine FN ?_ ?_ ?_ ?_ rfl ?_|refine kv_ifn ?_ ?_|refine kv_if ?_ ?_|refine k_if ?_ ?_|refine IA ?_ ?_ ?_|refine L1 ?_ ?_|refine L2 ?_ ?_|refine L3 ?_ ?_ ?_ ?_|refine L4 ?_ ?_|refine L5 ?_ ?_ ?_ ?_ ?_|refine L6 ?_ ?_ ?_ ?_ ?_|refine AC.p0 (con52a ?_) ?_ (by simp -implicitDefEqProofs only [qU,pure_encZ]; done) ?_ ?_|simp -implicitDefEqProofs only [F21,qA,ld_0,ld_pv,st_0,doEqs,qU,List.reduceReplicate,Nat.reduceAdd,Nat.reduceSub,Nat.reduceLeDiff,Nat.reduceEqDiff,Nat.reduceMul,reduceIte,reduceCtorEq,qI,Nat.reduceLT,Nat.reduceBEq,up_s,Int.toNat_natCast,encT,qZ,splice_c,sp_word,sp_slots,sp_sends,sp_recvs,sp_full,sp_empty,sp_allZ,sp_allW,sp_allV,qC,encW,encV,Int.natCast_zero, *]
    all_goals first
      | exact Wk.refl _
      | exact hT
      | trace_state

def F18:AFn:=⟨33,(.seq (.reg [o1 3 (.box 33 0),o1 6 (.alloc 33 [(.int .i64 0),(.int .i64 0),(.int .i64 0),(.int .i64 0),(.int .i64 0),(.int .i64 0),(.bool false),(.int .i64 0),(.int .i64 0),(.int .i64 0),.slnil,.slnil,.slnil,(.int .i64 0),.slnil,(.int .i64 0),.slnil,(.int .i64 0),.slnil,.slnil]),o1 7 (.mv (ci 0))]) (.seq (.reg [o1 8 (.mv (ci 0))]) (.seq (.reg [o1 10 (.ld 20 true 3),o1 11 (.mv 1),o1 12 (.call 52 [10,11,(ci 1)]),o1 9 (.mv 12)]) (.seq (.block 0 (.loop (.seq (.seq (.reg [o1 13 (.mv 8),o1 14 (.mv 2),o1 15 (.bin .lss 13 14),o1 16 (.mv 15),o3 17 (.mv 8) 16,o3 18 (.bin .lss 17 (ci 1000)) 16,o1 19 (.pick 16 18 (.const (.bool false))),o1 20 (.mv 19),o3 21 (.mv 9) 20,o1 22 (.pick 20 21 (.const (.bool false)))]) (.cond 22 .skip (.exit 0))) (.block 1 (.seq (.reg [o1 23 (.ld 20 true 3),o1 24 (.mv 1),o1 25 (.call 21 [23,24]),o2 (.st 20 3 25)]) (.seq (.reg [o1 26 (.mv 8),o1 27 (.bin .add 26 (ci 1)),o1 8 (.mv 27)]) (.reg [o1 28 (.ld 20 true 3),o1 29 (.mv 1),o1 30 (.call 52 [28,29,(ci 1)]),o1 9 (.mv 30)]))))))) (.seq (.reg [o1 31 (.ld 20 true 3),o1 32 (.mv 8),o2 (.st 20 6 31),o1 7 (.mv 32)]) .ret))))),[(6,some (20,true)),(7,none)]⟩
theorem x18:xf Tryz.prog 18=some F18:=by kernel_rfl
theorem lt_min2 {k:Nat} {m:Int} (h1:(k:Int)<m) (h2:(k:Int)<1000):k<(min m 1000).toNat:=by omega
theorem ge_min2 {k:Nat} {m:Int} (h:¬ (k:Int)<m∨¬ (k:Int)<1000):(min m 1000).toNat≤k:=by omega
theorem con18 {s:State} {id m:Int} (h:Bd s 100000):Con Tryz.prog 18 [.agg (encZ s),.int .i64 id,.int .i64 m] (.tup [.agg (encZ (sSteps s id m).1),.int .i64 (sSteps s id m).2],[],[]):=by
  have hs:=h.mono (n:=1000000) (by omega)
  have hT:s.threads.length≤100000000:=by have:=h.all; omega
  refine mcb_of_vc mix x18 (by simp [F18]) fun hw _=>?_
  clear hw
  repeat' with_reducible first|refine gTn_of (fun h=>?_) (fun h=>?_)|refine gT_of (fun h=>?_) (fun h=>?_)|refine caseTn_of (fun h=>?_) (fun h=>?_)|refine caseT_of (fun h=>?_) (fun h=>?_)|refine FN ?_ ?_ ?_ ?_ rfl ?_|refine kv_ifn ?_ ?_|refine kv_if ?_ ?_|refine k_if ?_ ?_|refine IA ?_ ?_ ?_|refine L1 ?_ ?_|refine L2 ?_ ?_|refine L3 ?_ ?_ ?_ ?_|refine L4 ?_ ?_|refine L5 ?_ ?_ ?_ ?_ ?_|refine L6 ?_ ?_ ?_ ?_ ?_|refine AC.p0 (con52a ?_) ?_ (by simp -implicitDefEqProofs only [qU,pure_encZ]; done) ?_ ?_|refine AC.p0 (con21 ?_) ?_ (by simp -implicitDefEqProofs only [qU,pure_encZ]; done) ?_ ?_|simp -implicitDefEqProofs only [F18,qA,ld_0,ld_pv,st_0,doEqs,qU,List.reduceReplicate,Nat.reduceAdd,Nat.reduceSub,Nat.reduceLeDiff,Nat.reduceEqDiff,Nat.reduceMul,reduceIte,reduceCtorEq,qI,Nat.reduceLT,Nat.reduceBEq,up_s,Int.toNat_natCast,qZ,splice_c,sp_word,sp_slots,sp_sends,sp_recvs,sp_full,sp_empty,sp_allZ,sp_allW,sp_allV,qC,Int.natCast_zero,nl_s,nl_0,lm_normal,lm_exit,lm_ret, *]
  all_goals first
    | refine lm_of 5 (fun t:Nat×State=>nl 1 (some (.int .i64 id) :: some (.int .i64 m) :: some (.ptr 2 0 0) :: nl 2 (some (.ptr 3 0 0) :: nl 1 (some (.int .i64 t.1) :: some (.bool (sIs t.2 id)) :: nl 23 [])))) (fun t=>[(2,.rows 33 20 [encZ t.2]),(3,.rows 33 20 [[(.int .i64 0),(.int .i64 0),(.int .i64 0),(.int .i64 0),(.int .i64 0),(.int .i64 0),(.bool false),(.int .i64 0),(.int .i64 0),(.int .i64 0),.slnil,.slnil,.slnil,(.int .i64 0),.slnil,(.int .i64 0),.slnil,(.int .i64 0),.slnil,.slnil]])]) (fun t=>t.1≤(min m 1000).toNat∧sRun s id (min m 1000).toNat=((sRun t.2 id ((min m 1000).toNat - t.1)).1,(sRun t.2 id ((min m 1000).toNat - t.1)).2+t.1)∧Bd t.2 (100000+t.1)) (fun t=>(min m 1000).toNat - t.1) [] [(1,2),(17,3)] (0,s) (by omega) ?_ ?_ ?_ ?_ ?_ ?_
    | omega
    | exact hs
    | exact hT
    | trace_state
  rotate_right
  · rintro ⟨k,st⟩ ⟨hJ1,hJ2,hJ3⟩
    simp only [] at hJ1 hJ2 hJ3
    have hb:=hJ3.mono (n:=1000000) (by omega)
    have hT2:(sStep st id).threads.length≤100000000:=by have:=(bd_sStep (id:=id) hJ3).all; omega
    simp only [all_some,all_none,all_nil,nl_s,nl_0]
    intros
    repeat' with_reducible first|refine gTn_of (fun h=>?_) (fun h=>?_)|refine gT_of (fun h=>?_) (fun h=>?_)|refine caseTn_of (fun h=>?_) (fun h=>?_)|refine caseT_of (fun h=>?_) (fun h=>?_)|refine FN ?_ ?_ ?_ ?_ rfl ?_|refine kv_ifn ?_ ?_|refine kv_if ?_ ?_|refine k_if ?_ ?_|refine IA ?_ ?_ ?_|refine L1 ?_ ?_|refine L2 ?_ ?_|refine L3 ?_ ?_ ?_ ?_|refine L4 ?_ ?_|refine L5 ?_ ?_ ?_ ?_ ?_|refine L6 ?_ ?_ ?_ ?_ ?_|refine AC.p0 (con52a ?_) ?_ (by simp -implicitDefEqProofs only [qU,pure_encZ]; done) ?_ ?_|refine AC.p0 (con21 ?_) ?_ (by simp -implicitDefEqProofs only [qU,pure_encZ]; done) ?_ ?_|refine rm_of [] [(2,2),(3,3)] (k+1,sStep st id) ?_ ?_ ?_ ?_ ?_ ?_|simp -implicitDefEqProofs only [F18,qA,ld_0,ld_pv,st_0,doEqs,qU,List.reduceReplicate,Nat.reduceAdd,Nat.reduceSub,Nat.reduceLeDiff,Nat.reduceEqDiff,Nat.reduceMul,reduceIte,reduceCtorEq,qI,Nat.reduceLT,Nat.reduceBEq,up_s,Int.toNat_natCast,qZ,splice_c,sp_word,sp_slots,sp_sends,sp_recvs,sp_full,sp_empty,sp_allZ,sp_allW,sp_allV,qC,Int.natCast_zero,nl_s,nl_0,lm_normal,lm_exit,lm_ret, *]
    all_goals first
      | exact hb
      | exact hT2
      | exact run_wk hJ2 (.inr (by assumption))
      | exact run_wk hJ2 (.inl (ge_min2 (.inl (of_decide_eq_false (by assumption)))))
      | exact run_wk hJ2 (.inl (ge_min2 (.inr (of_decide_eq_false (by assumption)))))
      | (have hk:=lt_min2 (of_decide_eq_true (by assumption)) (of_decide_eq_true (by assumption)) (k:=k) (m:=m)
         first
         | omega
         | (refine ⟨hk,?_,(bd_sStep hJ3).mono (by omega)⟩
            have e:=run_next (N:=(min m 1000).toNat) (by assumption:sIs st id=true) hk
            rw [e]
            exact ⟨rfl,by simp only []; omega⟩)
         | exact ⟨trivial,by rw [wrap64 (by omega) (by omega)]; omega⟩
         | (rw [wrap64 (by omega) (by omega)]; omega))
      | trace_state
  all_goals first
    | omega
    | exact ⟨Nat.zero_le _,rfl,h⟩
    | (simp -implicitDefEqProofs only [qA,ld_0,ld_pv,st_0,splice,doEqs,qU,List.reduceReplicate,Nat.reduceAdd,Nat.reduceSub,Nat.reduceLeDiff,Nat.reduceEqDiff,Nat.reduceMul,reduceIte,reduceCtorEq,qI,Nat.reduceLT,Nat.reduceBEq,qZ,nl_s,nl_0]; first | done | (simp; done))
    | trace_state

end Go.Sak
