/- Part S103 of the proofs about the program: K201. Conditions: none. -/
import Derived.Test.YtahdilehajdhgaaGreatS102
import Derived.Test.YtahdilehajdhgaaGreatS04
import Derived.Test.YtahdilehajdhgaaGreatProg
import Derived.KernelRfl
namespace Go.Sak
open Go Go.RowKit Go.Proofs
set_option linter.unusedVariables false
set_option linter.unusedSimpArgs false
set_option maxRecDepth 10000
set_option maxHeartbeats 8000000
theorem fin_hr {r:Nat} (hr:r=3∨r=6) {m0:AM} {N b:Nat} {h:List Due} {v:AV} (hv:v.pure=true):FinS 8 m0 (v,inlU m0 [(2,.rows 169 1 [[.slm r N]]),(r,.rows 51 2 ((h).map encD))],[]) v [(2,.rows 169 1 [[.slm r N]]),(r,.rows 51 2 ((h).map encD))] b:=by
  rcases hr with rfl | rfl <;> exact fin_in [] [] rfl rfl (by simp [stM,stT,nameT,lk,AV.tr,Blk.tr,trss,trs,ts_d]) (by simp) (AV.tr_pure _ _ hv)
theorem dn_y {n i:Nat} {l:List Due} (h:2 * i+1<n) (k:dAhead (l.getD (hKid n l i) default) (l.getD i default)=true):hDown n (hSwap l i (hKid n l i)) (hKid n l i)=hDown n l i:=by
  conv=>rhs; rw [hDown]
  rw [dif_pos h,if_pos k]
theorem dn_n {n i:Nat} {l:List Due} (h:n≤2 * i+1∨dAhead (l.getD (hKid n l i) default) (l.getD i default)=false):hDown n l i=(l,i):=by
  rw [hDown]
  split
  · rename_i h1
    rcases h with h | h
    · omega
    · rw [if_neg (by rw [h]; decide)]
  · rfl
theorem kid2 {n i:Nat} {l:List Due} (h:2 * i+2<n) (k:dAhead (l.getD (2 * i+2) default) (l.getD (2 * i+1) default)=true):hKid n l i=2 * i+2:=if_pos ⟨h,k⟩
theorem kid1 {n i:Nat} {l:List Due} (h:n≤2 * i+2∨dAhead (l.getD (2 * i+2) default) (l.getD (2 * i+1) default)=false):hKid n l i=2 * i+1:=by
  refine if_neg ?_
  rintro ⟨h1,h2⟩
  rcases h with h | h
  · omega
  · rw [h2] at h; cases h
theorem dn_ix {i:Nat} (h:i≤1000000):IntKind.wrap .i64 (IntKind.wrap .i64 (2 * (i:Int))+1)=((2 * i+1:Nat):Int):=by
  rw [show IntKind.wrap .i64 (2 * (i:Int))=2 * (i:Int) from wrap64 (by omega) (by omega),wrap64 (by omega) (by omega)]; omega
theorem dn_ix2 {i:Nat} (h:i≤1000000):IntKind.wrap .i64 (((2 * i+1:Nat):Int)+1)=((2 * i+2:Nat):Int):=by
  rw [wrap64 (by omega) (by omega)]; omega
def F244:AFn:=⟨48,(.seq (.reg [o1 6 (.mv (.const (.bool false)))]) (.seq (.reg [o1 11 (.mv 1),o1 7 (.mv 11)]) (.seq (.block 0 (.loop (.block 1 (.seq (.reg [o1 12 (.mv 7),o1 13 (.bin .mul (ci 2) 12),o1 14 (.bin .add 13 (ci 1)),o1 8 (.mv 14)]) (.seq (.seq (.reg [o1 15 (.mv 8),o1 16 (.mv 2),o1 17 (.bin .geq 15 16),o1 18 (.mv 17),o4 19 (.mv 8) 18,o4 20 (.bin .lss 19 (ci 0)) 18,o1 21 (.pick 18 (.const (.bool true)) 20)]) (.cond 21 (.exit 0) .skip)) (.seq (.reg [o1 22 (.mv 8),o1 9 (.mv 22)]) (.seq (.seq (.reg [o1 23 (.mv 8),o1 24 (.bin .add 23 (ci 1)),o1 10 (.mv 24)]) (.seq (.reg [o1 25 (.mv 10),o1 26 (.mv 2),o1 27 (.bin .lss 25 26),o1 28 (.mv 27),o3 29 (.mv 0) 28,o3 30 (.mv 10) 28,o3 31 (.mv 8) 28,o3 32 (.invoke 29 [(168,315)] [30,31]) 28,o1 33 (.pick 28 32 (.const (.bool false)))]) (.cond 33 (.reg [o1 34 (.mv 10),o1 9 (.mv 34)]) .skip))) (.seq (.seq (.reg [o1 35 (.mv 0),o1 36 (.mv 9),o1 37 (.mv 7),o1 38 (.invoke 35 [(168,315)] [36,37]),o1 39 (.not 38)]) (.cond 39 (.exit 0) .skip)) (.seq (.reg [o1 40 (.mv 0),o1 41 (.mv 7),o1 42 (.mv 9),o1 43 (.invoke 40 [(168,318)] [41,42])]) (.reg [o1 44 (.mv 9),o1 7 (.mv 44)])))))))))) (.seq (.reg [o1 45 (.mv 7),o1 46 (.mv 1),o1 47 (.bin .gtr 45 46),o1 6 (.mv 47)]) .ret)))),[(6,none)]⟩
theorem x244:xf Tryz.prog 244=some F244:=by kernel_rfl
theorem con244 {r:Nat} (hr:r=3∨r=6) {l:List Due} {i0 n N:Nat} (hN:l.length=N) (hi:i0≤n) (hn:n≤N) (hl:N≤1000000):MCb Tryz.prog 244 [.iface 168 (.ptr 2 0 0),.int .i64 i0,.int .i64 n] (.bool (decide ((i0:Int)<((hDown n l i0).2:Int))),inlU [(2,.rows 169 1 [[.slm r N]]),(r,.rows 51 2 ((l).map encD))] [(2,.rows 169 1 [[.slm r N]]),(r,.rows 51 2 (((hDown n l i0).1).map encD))],[]) (AM.get [(2,.rows 169 1 [[.slm r N]]),(r,.rows 51 2 ((l).map encD))]) 8:=by
  suffices hh:∀ e,(∀ h b,hDown n l i0=h→FinS 8 [(2,.rows 169 1 [[.slm r N]]),(r,.rows 51 2 ((l).map encD))] e (.bool (decide ((i0:Int)<((h).2:Int)))) [(2,.rows 169 1 [[.slm r N]]),(r,.rows 51 2 ((h.1).map encD))] b)→MCb Tryz.prog 244 [.iface 168 (.ptr 2 0 0),.int .i64 i0,.int .i64 n] e (AM.get [(2,.rows 169 1 [[.slm r N]]),(r,.rows 51 2 ((l).map encD))]) 8 from hh _ fun h b e=>by subst e; exact fin_hr hr rfl
  intro e hf
  obtain ⟨mm,hmm⟩:∃ mm:List Due→AM,∀ l,mm l=[(2,.rows 169 1 [[.slm r N]]),(r,.rows 51 2 ((l).map encD))]:=⟨_,fun _=>rfl⟩
  rcases hr with rfl | rfl
  all_goals
    refine mcb_of_vc mix x244 (by simp [F244]) fun hw _=>?_
    clear hw
    have zd:=qD
    repeat' with_reducible first|refine gTn_of (fun h=>?_) (fun h=>?_)|refine gT_of (fun h=>?_) (fun h=>?_)|refine caseTn_of (fun h=>?_) (fun h=>?_)|refine caseT_of (fun h=>?_) (fun h=>?_)|refine FN ?_ ?_ ?_ ?_ rfl ?_|refine kv_ifn ?_ ?_|refine kv_if ?_ ?_|refine k_if ?_ ?_|refine I2 mix x315 lf315 ?_ ?_ ?_ ?_ ?_|refine I2 mix x318 lf318 ?_ ?_ ?_ ?_ ?_|refine IA ?_ ?_ ?_|refine L1 ?_ ?_|refine L2 ?_ ?_|refine L3 ?_ ?_ ?_ ?_|refine L4 ?_ ?_|refine L5 ?_ ?_ ?_ ?_ ?_|refine L6 ?_ ?_ ?_ ?_ ?_|refine I3 mix x315 lf315 ?_ ?_ ?_ ?_ ?_|refine inr_fin ?_ ?_ ?_ ?_|refine I2 mix x318 lf318 ?_ ?_ ?_ ?_ ?_|refine IA ?_ ?_ ?_|refine AC.p0 con134s ?_ (by simp -implicitDefEqProofs only [pures,AV.pure,pure_encD,Bool.and_true]; done) ?_ ?_|refine st_row (enc:=encD) (d:=default) (by simp -implicitDefEqProofs only [m_get,Nat.reduceEqDiff,reduceIte,if_true,if_false]; first|done|exact rfl) ?_ ?_ ?_ ?_ (sp_d _ _) ?_|simp -implicitDefEqProofs only [F244,qA,ld_0,ld_pv,st_0,splice,doEqs,qU,List.reduceReplicate,Nat.reduceAdd,Nat.reduceSub,Nat.reduceLeDiff,Nat.reduceEqDiff,Nat.reduceMul,reduceIte,reduceCtorEq,qI,Nat.reduceLT,Nat.reduceBEq,F315,F318,up_s,Int.toNat_natCast,encT,v_invoke,ik_s,doIaddr,nl_s,nl_0,lm_normal,lm_exit,lm_ret, *]
    all_goals first
      | refine lm_of 9 (fun s:Nat×List Due=>some (.iface 168 (.ptr 2 0 0)) :: some (.int .i64 i0) :: some (.int .i64 n) :: nl 3 (some (.bool false) :: some (.int .i64 s.1) :: nl 40 [])) (fun s=>mm s.2) (fun s=>s.2.length=N∧s.1≤n∧hDown n s.2 s.1=hDown n l i0) (fun s=>n - s.1) [] [] (i0,l) (by omega) ?_ ?_ ?_ ?_ ?_ ?_
      | trace_state
    rotate_right
    · rintro ⟨i,G⟩ ⟨h2,h1,h3⟩
      simp only [] at h1 h2 h3
      simp only [all_some,all_none,all_nil,nl_s,nl_0]
      have hq:=dn_ix (i:=i) (by omega)
      have hq2:=dn_ix2 (i:=i) (by omega)
      have hz:¬ (((2 * i+1:Nat):Int)<0):=by omega
      intros
      repeat' with_reducible first|refine gTn_of (fun h=>?_) (fun h=>?_)|refine gT_of (fun h=>?_) (fun h=>?_)|refine caseTn_of (fun h=>?_) (fun h=>?_)|refine caseT_of (fun h=>?_) (fun h=>?_)|refine FN ?_ ?_ ?_ ?_ rfl ?_|refine kv_ifn ?_ ?_|refine kv_if ?_ ?_|refine k_if ?_ ?_|refine I2 mix x315 lf315 ?_ ?_ ?_ ?_ ?_|refine I2 mix x318 lf318 ?_ ?_ ?_ ?_ ?_|refine IA ?_ ?_ ?_|refine L1 ?_ ?_|refine L2 ?_ ?_|refine L3 ?_ ?_ ?_ ?_|refine L4 ?_ ?_|refine L5 ?_ ?_ ?_ ?_ ?_|refine L6 ?_ ?_ ?_ ?_ ?_|refine I3 mix x315 lf315 ?_ ?_ ?_ ?_ ?_|refine inr_fin ?_ ?_ ?_ ?_|refine I2 mix x318 lf318 ?_ ?_ ?_ ?_ ?_|refine IA ?_ ?_ ?_|refine AC.p0 con134s ?_ (by simp -implicitDefEqProofs only [pures,AV.pure,pure_encD,Bool.and_true]; done) ?_ ?_|refine st_row (enc:=encD) (d:=default) (by simp -implicitDefEqProofs only [m_get,Nat.reduceEqDiff,reduceIte,if_true,if_false]; first|done|exact rfl) ?_ ?_ ?_ ?_ (sp_d _ _) ?_|simp -implicitDefEqProofs only [F244,qA,ld_0,ld_pv,st_0,splice,doEqs,qU,List.reduceReplicate,Nat.reduceAdd,Nat.reduceSub,Nat.reduceLeDiff,Nat.reduceEqDiff,Nat.reduceMul,reduceIte,reduceCtorEq,qI,Nat.reduceLT,Nat.reduceBEq,F315,F318,up_s,Int.toNat_natCast,encT,v_invoke,ik_s,doIaddr,nl_s,nl_0,lm_normal,lm_exit,lm_ret, *]
      all_goals first
        | (simp only [decide_eq_true_eq,decide_eq_false_iff_not] at *; clear zd; first | omega | (constructor <;> omega))
        | exact hf _ _ (h3.symm.trans (dn_n (.inl (by simp only [decide_eq_true_eq,decide_eq_false_iff_not] at *; omega))))
        | exact hf _ _ (h3.symm.trans (dn_n (.inr (by rw [kid2 (by simp only [decide_eq_true_eq,decide_eq_false_iff_not] at *; omega) (by assumption)]; assumption))))
        | exact hf _ _ (h3.symm.trans (dn_n (.inr (by rw [kid1 (.inr (by assumption))]; assumption))))
        | exact hf _ _ (h3.symm.trans (dn_n (.inr (by rw [kid1 (.inl (by simp only [decide_eq_true_eq,decide_eq_false_iff_not] at *; omega))]; assumption))))
        | (have hk:=kid2 (l:=G) (i:=i) (n:=n) (by simp only [decide_eq_true_eq,decide_eq_false_iff_not] at *; clear zd; omega) (by assumption)
           have hz2:=dn_y (l:=G) (i:=i) (n:=n) (by simp only [decide_eq_true_eq,decide_eq_false_iff_not] at *; clear zd; omega) (by rw [hk]; assumption)
           rw [hk] at hz2
           refine rm_of [] [] (2 * i+2,hSwap G i (2 * i+2)) ?_ ?_ ?_ ?_ ?_ ?_
           all_goals first
             | (simp only []; simp only [decide_eq_true_eq,decide_eq_false_iff_not] at *; clear zd; omega)
             | exact ⟨by rw [hSwap_len]; exact h2,by simp only [decide_eq_true_eq,decide_eq_false_iff_not] at *; clear zd; omega,hz2.trans h3⟩
             | (simp -implicitDefEqProofs only [qA,ld_0,ld_pv,st_0,splice,doEqs,qU,List.reduceReplicate,Nat.reduceAdd,Nat.reduceSub,Nat.reduceLeDiff,Nat.reduceEqDiff,Nat.reduceMul,reduceIte,reduceCtorEq,qI,Nat.reduceLT,Nat.reduceBEq,qZ,nl_s,nl_0,qD,hmm]; first | done | exact rfl | (simp; done)))
        | (have hk:=kid1 (l:=G) (i:=i) (n:=n) (.inr (by assumption))
           have hz2:=dn_y (l:=G) (i:=i) (n:=n) (by simp only [decide_eq_true_eq,decide_eq_false_iff_not] at *; clear zd; omega) (by rw [hk]; assumption)
           rw [hk] at hz2
           refine rm_of [] [] (2 * i+1,hSwap G i (2 * i+1)) ?_ ?_ ?_ ?_ ?_ ?_
           all_goals first
             | (simp only []; simp only [decide_eq_true_eq,decide_eq_false_iff_not] at *; clear zd; omega)
             | exact ⟨by rw [hSwap_len]; exact h2,by simp only [decide_eq_true_eq,decide_eq_false_iff_not] at *; clear zd; omega,hz2.trans h3⟩
             | (simp -implicitDefEqProofs only [qA,ld_0,ld_pv,st_0,splice,doEqs,qU,List.reduceReplicate,Nat.reduceAdd,Nat.reduceSub,Nat.reduceLeDiff,Nat.reduceEqDiff,Nat.reduceMul,reduceIte,reduceCtorEq,qI,Nat.reduceLT,Nat.reduceBEq,qZ,nl_s,nl_0,qD,hmm]; first | done | exact rfl | (simp; done)))
        | (have hk:=kid1 (l:=G) (i:=i) (n:=n) (.inl (by simp only [decide_eq_true_eq,decide_eq_false_iff_not] at *; clear zd; omega))
           have hz2:=dn_y (l:=G) (i:=i) (n:=n) (by simp only [decide_eq_true_eq,decide_eq_false_iff_not] at *; clear zd; omega) (by rw [hk]; assumption)
           rw [hk] at hz2
           refine rm_of [] [] (2 * i+1,hSwap G i (2 * i+1)) ?_ ?_ ?_ ?_ ?_ ?_
           all_goals first
             | (simp only []; simp only [decide_eq_true_eq,decide_eq_false_iff_not] at *; clear zd; omega)
             | exact ⟨by rw [hSwap_len]; exact h2,by simp only [decide_eq_true_eq,decide_eq_false_iff_not] at *; clear zd; omega,hz2.trans h3⟩
             | (simp -implicitDefEqProofs only [qA,ld_0,ld_pv,st_0,splice,doEqs,qU,List.reduceReplicate,Nat.reduceAdd,Nat.reduceSub,Nat.reduceLeDiff,Nat.reduceEqDiff,Nat.reduceMul,reduceIte,reduceCtorEq,qI,Nat.reduceLT,Nat.reduceBEq,qZ,nl_s,nl_0,qD,hmm]; first | done | exact rfl | (simp; done)))
        | trace_state
    all_goals first
      | omega
      | exact ⟨hN,hi,rfl⟩
      | (simp -implicitDefEqProofs only [qA,ld_0,ld_pv,st_0,splice,doEqs,qU,List.reduceReplicate,Nat.reduceAdd,Nat.reduceSub,Nat.reduceLeDiff,Nat.reduceEqDiff,Nat.reduceMul,reduceIte,reduceCtorEq,qI,Nat.reduceLT,Nat.reduceBEq,qZ,nl_s,nl_0,qD,hmm]; first | done | (simp; done))
      | trace_state

end Go.Sak
