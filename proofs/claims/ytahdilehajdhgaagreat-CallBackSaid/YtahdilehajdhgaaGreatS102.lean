/- Part S102 of the proofs about the program: K200. Conditions: none. -/
import Derived.Test.YtahdilehajdhgaaGreatS10
import Derived.Test.YtahdilehajdhgaaGreatS100
import Derived.Test.YtahdilehajdhgaaGreatS101
import Derived.Test.YtahdilehajdhgaaGreatS47
import Derived.Test.YtahdilehajdhgaaGreatS04
import Derived.Test.YtahdilehajdhgaaGreatProg
import Derived.KernelRfl
namespace Go.Sak
open Go Go.RowKit Go.Proofs
set_option linter.unusedVariables false
set_option linter.unusedSimpArgs false
set_option maxRecDepth 10000
set_option maxHeartbeats 8000000
set_option linter.defProp false
def F315:AFn:=⟨20,(.seq (.reg [o1 6 (.mv (.const (.bool false)))]) (.seq (.regT [o1 7 (.mv 0),o1 8 (.nilchk 7),o1 9 (.ld 1 false 8),o1 10 (.mv 1),o1 11 (.iaddr 2 9 10),o1 12 (.ld 2 true 11),o1 13 (.mv 0),o1 14 (.nilchk 13),o1 15 (.ld 1 false 14),o1 16 (.mv 2),o1 17 (.iaddr 2 15 16),o1 18 (.ld 2 true 17),o1 19 (.call 134 [12,18]),o1 6 (.mv 19)] [(1,7),(2,7),(4,7),(5,7),(1,8),(2,8),(4,8),(5,8),(1,10),(2,10),(4,10),(5,10),(1,11),(2,11),(4,11),(5,11)]) .ret)),[(6,none)]⟩
theorem x315:xf Tryz.prog 315=some F315:=by kernel_rfl
theorem lf315:F315.code.lf=true:=rfl
def F318:AFn:=⟨28,(.regT [o1 6 (.mv 0),o1 7 (.nilchk 6),o1 8 (.ld 1 false 7),o1 9 (.mv 1),o1 10 (.mv 0),o1 11 (.nilchk 10),o1 12 (.ld 1 false 11),o1 13 (.mv 2),o1 14 (.mv 0),o1 15 (.nilchk 14),o1 16 (.ld 1 false 15),o1 17 (.mv 2),o1 18 (.iaddr 2 16 17),o1 19 (.ld 2 true 18),o1 20 (.mv 0),o1 21 (.nilchk 20),o1 22 (.ld 1 false 21),o1 23 (.mv 1),o1 24 (.iaddr 2 22 23),o1 25 (.ld 2 true 24),o1 26 (.iaddr 2 8 9),o2 (.st 2 26 19),o1 27 (.iaddr 2 12 13),o2 (.st 2 27 25)] [(1,5),(2,5),(1,6),(2,6),(1,9),(2,9),(5,9),(6,9),(1,10),(2,10),(5,10),(6,10),(1,12),(2,12),(5,12),(6,12),(1,13),(2,13),(5,13),(6,13),(1,15),(2,15),(5,15),(6,15),(9,15),(10,15),(12,15),(13,15),(1,16),(2,16),(5,16),(6,16),(9,16),(10,16),(12,16),(13,16),(1,18),(2,18),(5,18),(6,18),(9,18),(10,18),(12,18),(13,18),(1,19),(2,19),(5,19),(6,19),(9,19),(10,19),(12,19),(13,19)]),[]⟩
theorem x318:xf Tryz.prog 318=some F318:=by kernel_rfl
theorem lf318:F318.code.lf=true:=rfl
def F314:AFn:=⟨7,(.seq (.reg [o1 2 (.mv (ci 0))]) (.seq (.reg [o1 3 (.mv 0),o1 4 (.nilchk 3),o1 5 (.ld 1 false 4),o1 6 (.len 5),o1 2 (.mv 6)]) .ret)),[(2,none)]⟩
theorem x314:xf Tryz.prog 314=some F314:=by kernel_rfl
theorem lf314:F314.code.lf=true:=rfl
def F316:AFn:=⟨25,(.seq (.reg [o1 2 (.mv (.const .ifnil))]) (.seq (.reg [o1 5 (.mv 0),o1 6 (.nilchk 5),o1 7 (.ld 1 false 6),o1 8 (.len 7),o1 9 (.bin .sub 8 (ci 1)),o1 3 (.mv 9)]) (.seq (.reg [o1 10 (.mv 0),o1 11 (.nilchk 10),o1 12 (.ld 1 false 11),o1 13 (.mv 3),o1 14 (.iaddr 2 12 13),o1 15 (.ld 2 true 14),o1 4 (.alloc 51 [(.int .i64 0),(.int .i64 0)]),o2 (.st 2 4 15)]) (.seq (.reg [o1 16 (.mv 0),o1 17 (.mv 0),o1 18 (.nilchk 17),o1 19 (.ld 1 false 18),o1 20 (.mv 3),o1 21 (.slc 2 19 none (some 20)),o1 22 (.nilchk 16),o2 (.st 1 22 21)]) (.seq (.reg [o1 23 (.ld 2 true 4),o1 24 (.mkif 51 23),o1 2 (.mv 24)]) .ret))))),[(2,none)]⟩
theorem x316:xf Tryz.prog 316=some F316:=by kernel_rfl
theorem lf316:F316.code.lf=true:=rfl
def F134:AFn:=⟨24,(.seq (.reg [o1 2 (.box 51 0),o1 3 (.box 51 1),o1 4 (.mv (.const (.bool false)))]) (.seq (.reg [o1 5 (.faddr 0 2),o1 6 (.ld 1 false 5),o1 7 (.faddr 0 3),o1 8 (.ld 1 false 7),o1 9 (.bin .lss 6 8),o1 10 (.mv 9),o4 11 (.faddr 0 2) 10,o4 12 (.ld 1 false 11) 10,o4 13 (.faddr 0 3) 10,o4 14 (.ld 1 false 13) 10,o4 15 (.bin .eql 12 14) 10,o4 16 (.mv 15) 10,o3 17 (.faddr 1 2) 16,o3 18 (.ld 1 false 17) 16,o3 19 (.faddr 1 3) 16,o3 20 (.ld 1 false 19) 16,o3 21 (.bin .lss 18 20) 16,o4 22 (.pick 16 21 (.const (.bool false))) 10,o1 23 (.pick 10 (.const (.bool true)) 22),o1 4 (.mv 23)]) .ret)),[(4,none)]⟩
theorem x134:xf Tryz.prog 134=some F134:=by kernel_rfl
theorem con134 {a_tm a_id:Int} {b_tm b_id:Int}  : Con Tryz.prog 134 [.agg [.int .i64 a_tm,.int .i64 a_id],.agg [.int .i64 b_tm,.int .i64 b_id]] ((.bool (dAhead (Due.mk a_tm a_id) (Due.mk b_tm b_id))),[],[]):=by
  refine mcb_of_vc mix x134 (by simp [F134]) fun hw _=>?_
  simp only [wfs,AV.wf,inR_i64] at hw
  repeat' with_reducible first|refine gTn_of (fun h=>?_) (fun h=>?_)|refine gT_of (fun h=>?_) (fun h=>?_)|refine caseTn_of (fun h=>?_) (fun h=>?_)|refine caseT_of (fun h=>?_) (fun h=>?_)|refine fin_pure ?_ ?_ ?_ ?_|refine kv_ifn ?_ ?_|refine kv_if ?_ ?_|refine k_if ?_ ?_|simp -implicitDefEqProofs only [F134,qA,doLd,doSt,splice,doEqs,qU,List.reduceReplicate,Nat.reduceAdd,Nat.reduceSub,Nat.reduceLeDiff,Nat.reduceEqDiff,Nat.reduceMul,reduceIte,reduceCtorEq, *]
  all_goals first
    | (simp; done)
    | exact idxF_any
    | exact idxF_any.symm
    | grind [inR_i64,wrap64,maxLen_eq,dAhead]

theorem con134s {a b:Due}:Con Tryz.prog 134 [.agg (encD a),.agg (encD b)] (.bool (dAhead a b),[],[]):=con134
theorem sp_d (a b:Due):splice (encD a) 0 (AV.cells (.agg (encD b)))=encD b:=rfl
theorem ln_d (a:Due):(encD a).length=2:=rfl
theorem tk_d (a:Due):(encD a).take 2=encD a:=rfl
theorem dr_d (a:Due):(encD a).drop 2=[]:=rfl
theorem al_d (a:Due):(encD a).all AV.one=true:=rfl
theorem ns_d (L:List Nat) (l:List Due):inNss L (l.map encD)=true:=inNss_enc pure_encD L l
theorem nd_d (l:List Due):nmsLL (l.map encD)=[]:=nmsLL_enc pure_encD l
theorem ts_d (T:Tr) (l:List Due):trss T (l.map encD)=l.map encD:=trss_enc T pure_encD l
theorem n1_d (L:List Nat) (a:Due):inNs L (encD a)=true:=rfl
theorem n2_d (a:Due):nmsL (encD a)=[]:=rfl
theorem t1_d (T:Tr) (a:Due):trs T (encD a)=encD a:=rfl
theorem pl_d (l:List Due):puress (l.map encD)=true:=puress_map pure_encD l
def qD:=And.intro (And.intro (And.intro (@ln_d) (And.intro (@tk_d) (@dr_d))) (And.intro (@al_d) (And.intro (@ns_d) (@nd_d)))) (And.intro (And.intro (@ts_d) (And.intro (@n1_d) (@n2_d))) (And.intro (And.intro (@t1_d) (@pl_d)) (And.intro (@pure_encD) (@List.length_set.{0}))))
theorem fin_hm {m0:AM} {N b:Nat} {h:List Due} {v:AV} (hv:v.pure=true):FinS 40 m0 (v,inlU m0 [(2,.rows 169 1 [[.slm 37 N]]),(37,.rows 51 2 ((h).map encD))],[]) v [(2,.rows 169 1 [[.slm 37 N]]),(37,.rows 51 2 ((h).map encD))] b :=
  fin_in [] [] rfl rfl (by simp [stM,stT,nameT,lk,AV.tr,Blk.tr,trss,trs,ts_d]) (by simp) (AV.tr_pure _ _ hv)
theorem up_ix {i:Nat} (h:i≤1000000):IntKind.wrap .i64 ((IntKind.wrap .i64 ((i:Int) - 1)).tdiv 2)=(((i - 1) / 2:Nat):Int):=by
  cases i with
  | zero=>decide
  | succ i =>
    have e:((i+1:Nat):Int) - 1=(i:Int):=by omega
    have e2:(i+1 - 1) / 2=i / 2:=by omega
    have e3:IntKind.wrap .i64 (i:Int)=i:=wrap64 (by omega) (by omega)
    rw [e,e2,e3,Int.tdiv_eq_ediv_of_nonneg (by omega),wrap64 (by omega) (by omega)]
    omega
theorem hUp_y {l:List Due} {j:Nat} (h:¬ (j - 1) / 2=j) (k:dAhead (l.getD j default) (l.getD ((j - 1) / 2) default)=true):hUp (hSwap l ((j - 1) / 2) j) ((j - 1) / 2)=hUp l j:=by
  conv=>rhs; rw [hUp]
  rw [dif_pos ⟨h,k⟩]
theorem hUp_n {l:List Due} {j:Nat} (h:(j - 1) / 2=j∨dAhead (l.getD j default) (l.getD ((j - 1) / 2) default)=false):hUp l j=l:=by
  rw [hUp,dif_neg]
  rintro ⟨h1,h2⟩
  rcases h with h | h
  · exact h1 h
  · rw [h2] at h; cases h
def F192:AFn:=⟨23,(.block 0 (.loop (.block 1 (.seq (.reg [o1 5 (.mv 1),o1 6 (.bin .sub 5 (ci 1)),o1 7 (.bin .quo 6 (ci 2)),o1 4 (.mv 7)]) (.seq (.seq (.reg [o1 8 (.mv 4),o1 9 (.mv 1),o1 10 (.bin .eql 8 9),o1 11 (.mv 10),o4 12 (.mv 0) 11,o4 13 (.mv 1) 11,o4 14 (.mv 4) 11,o4 15 (.invoke 12 [(168,315)] [13,14]) 11,o4 16 (.not 15) 11,o1 17 (.pick 11 (.const (.bool true)) 16)]) (.cond 17 (.exit 0) .skip)) (.seq (.reg [o1 18 (.mv 0),o1 19 (.mv 4),o1 20 (.mv 1),o1 21 (.invoke 18 [(168,318)] [19,20])]) (.reg [o1 22 (.mv 4),o1 1 (.mv 22)]))))))),[]⟩
theorem x192:xf Tryz.prog 192=some F192:=by kernel_rfl
theorem con192 {l:List Due} {j N:Nat} (hN:l.length=N) (hj:j<N) (hl:N≤1000000):MCb Tryz.prog 192 [.iface 168 (.ptr 2 0 0),.int .i64 j] (.tup [],inlU [(2,.rows 169 1 [[.slm 37 N]]),(37,.rows 51 2 ((l).map encD))] [(2,.rows 169 1 [[.slm 37 N]]),(37,.rows 51 2 ((hUp l j).map encD))],[]) (AM.get [(2,.rows 169 1 [[.slm 37 N]]),(37,.rows 51 2 ((l).map encD))]) 40:=by
  suffices hh:∀ e,(∀ h b,hUp l j=h→FinS 40 [(2,.rows 169 1 [[.slm 37 N]]),(37,.rows 51 2 ((l).map encD))] e (.tup []) [(2,.rows 169 1 [[.slm 37 N]]),(37,.rows 51 2 ((h).map encD))] b)→MCb Tryz.prog 192 [.iface 168 (.ptr 2 0 0),.int .i64 j] e (AM.get [(2,.rows 169 1 [[.slm 37 N]]),(37,.rows 51 2 ((l).map encD))]) 40 from hh _ fun h b e=>by subst e; exact fin_hm rfl
  intro e hf
  refine mcb_of_vc mix x192 (by simp [F192]) fun hw _=>?_
  clear hw
  have zd:=qD
  repeat' with_reducible first|refine gTn_of (fun h=>?_) (fun h=>?_)|refine gT_of (fun h=>?_) (fun h=>?_)|refine caseTn_of (fun h=>?_) (fun h=>?_)|refine caseT_of (fun h=>?_) (fun h=>?_)|refine FN ?_ ?_ ?_ ?_ rfl ?_|refine kv_ifn ?_ ?_|refine kv_if ?_ ?_|refine k_if ?_ ?_|refine I2 mix x315 lf315 ?_ ?_ ?_ ?_ ?_|refine I2 mix x318 lf318 ?_ ?_ ?_ ?_ ?_|refine IA ?_ ?_ ?_|refine L1 ?_ ?_|refine L2 ?_ ?_|refine L3 ?_ ?_ ?_ ?_|refine L4 ?_ ?_|refine L5 ?_ ?_ ?_ ?_ ?_|refine L6 ?_ ?_ ?_ ?_ ?_|refine I3 mix x315 lf315 ?_ ?_ ?_ ?_ ?_|refine inr_fin ?_ ?_ ?_ ?_|refine I2 mix x318 lf318 ?_ ?_ ?_ ?_ ?_|refine IA ?_ ?_ ?_|refine AC.p0 con134s ?_ (by simp -implicitDefEqProofs only [pures,AV.pure,pure_encD,Bool.and_true]; done) ?_ ?_|refine st_row (enc:=encD) (d:=default) (by simp -implicitDefEqProofs only [m_get,Nat.reduceEqDiff,reduceIte,if_true,if_false]; first|done|exact rfl) ?_ ?_ ?_ ?_ (sp_d _ _) ?_|simp -implicitDefEqProofs only [F192,qA,ld_0,ld_pv,st_0,splice,doEqs,qU,List.reduceReplicate,Nat.reduceAdd,Nat.reduceSub,Nat.reduceLeDiff,Nat.reduceEqDiff,Nat.reduceMul,reduceIte,reduceCtorEq,qI,Nat.reduceLT,Nat.reduceBEq,F315,F318,up_s,Int.toNat_natCast,encT,v_invoke,ik_s,doIaddr,nl_s,nl_0,lm_normal,lm_exit,lm_ret, *]
  all_goals first
    | refine lm_of 41 (fun s:Nat×List Due=>some (.iface 168 (.ptr 2 0 0)) :: some (.int .i64 s.1) :: nl 21 []) (fun s=>[(2,.rows 169 1 [[.slm 37 N]]),(37,.rows 51 2 ((s.2).map encD))]) (fun s=>s.1<N∧s.2.length=N∧hUp s.2 s.1=hUp l j) (fun s=>s.1) [] [] (j,l) (by omega) ?_ ?_ ?_ ?_ ?_ ?_
    | trace_state
  rotate_right
  · rintro ⟨i,G⟩ ⟨h1,h2,h3⟩
    simp only [] at h1 h2 h3
    simp only [all_some,all_none,all_nil,nl_s,nl_0]
    have hq:=up_ix (i:=i) (by omega)
    have hy:=fun a b=>hUp_y (l:=G) (j:=i) a b
    have hn:=fun a=>hUp_n (l:=G) (j:=i) a
    have hq2:(i - 1) / 2<N:=by omega
    have hq3:¬ (i - 1) / 2=i→(i - 1) / 2<i:=fun _=>by omega
    generalize (i - 1) / 2=q at hq hy hn hq2 hq3
    intros
    repeat' with_reducible first|refine gTn_of (fun h=>?_) (fun h=>?_)|refine gT_of (fun h=>?_) (fun h=>?_)|refine caseTn_of (fun h=>?_) (fun h=>?_)|refine caseT_of (fun h=>?_) (fun h=>?_)|refine FN ?_ ?_ ?_ ?_ rfl ?_|refine kv_ifn ?_ ?_|refine kv_if ?_ ?_|refine k_if ?_ ?_|refine I2 mix x315 lf315 ?_ ?_ ?_ ?_ ?_|refine I2 mix x318 lf318 ?_ ?_ ?_ ?_ ?_|refine IA ?_ ?_ ?_|refine L1 ?_ ?_|refine L2 ?_ ?_|refine L3 ?_ ?_ ?_ ?_|refine L4 ?_ ?_|refine L5 ?_ ?_ ?_ ?_ ?_|refine L6 ?_ ?_ ?_ ?_ ?_|refine I3 mix x315 lf315 ?_ ?_ ?_ ?_ ?_|refine inr_fin ?_ ?_ ?_ ?_|refine I2 mix x318 lf318 ?_ ?_ ?_ ?_ ?_|refine IA ?_ ?_ ?_|refine AC.p0 con134s ?_ (by simp -implicitDefEqProofs only [pures,AV.pure,pure_encD,Bool.and_true]; done) ?_ ?_|refine st_row (enc:=encD) (d:=default) (by simp -implicitDefEqProofs only [m_get,Nat.reduceEqDiff,reduceIte,if_true,if_false]; first|done|exact rfl) ?_ ?_ ?_ ?_ (sp_d _ _) ?_|refine rm_of [] [] (q,hSwap G q i) ?_ ?_ ?_ ?_ ?_ ?_|simp -implicitDefEqProofs only [F192,qA,ld_0,ld_pv,st_0,splice,doEqs,qU,List.reduceReplicate,Nat.reduceAdd,Nat.reduceSub,Nat.reduceLeDiff,Nat.reduceEqDiff,Nat.reduceMul,reduceIte,reduceCtorEq,qI,Nat.reduceLT,Nat.reduceBEq,F315,F318,up_s,Int.toNat_natCast,encT,v_invoke,ik_s,doIaddr,nl_s,nl_0,lm_normal,lm_exit,lm_ret, *]
    all_goals first
      | omega
      | (constructor <;> omega)
      | exact hf _ _ (h3.symm.trans (hn (.inl (by have:=of_decide_eq_true (by assumption); omega))))
      | exact hf _ _ (h3.symm.trans (hn (.inr (by assumption))))
      | exact ⟨by rw [hSwap_len]; exact h2,(hy (of_decide_eq_false (by assumption:decide ((q:Int)=(i:Int))=false) |> fun e=>by omega) (by assumption)).trans h3⟩
      | exact hq3 (by have:=of_decide_eq_false (by assumption:decide ((q:Int)=(i:Int))=false); omega)
      | trace_state
  all_goals first
    | omega
    | exact ⟨hj,hN,rfl⟩
    | (simp -implicitDefEqProofs only [qA,ld_0,ld_pv,st_0,splice,doEqs,qU,List.reduceReplicate,Nat.reduceAdd,Nat.reduceSub,Nat.reduceLeDiff,Nat.reduceEqDiff,Nat.reduceMul,reduceIte,reduceCtorEq,qI,Nat.reduceLT,Nat.reduceBEq,qZ,nl_s,nl_0,qD]; first | done | (simp; done))
    | trace_state

end Go.Sak
