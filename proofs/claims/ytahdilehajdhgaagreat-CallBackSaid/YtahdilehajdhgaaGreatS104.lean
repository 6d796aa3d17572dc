/- Part S104 of the proofs about the program: K202, K203, K204. Conditions: none. -/
import Derived.Test.YtahdilehajdhgaaGreatS103
import Derived.Test.YtahdilehajdhgaaGreatS04
import Derived.Test.YtahdilehajdhgaaGreatProg
import Derived.KernelRfl
namespace Go.Sak
open Go Go.RowKit Go.Proofs
set_option linter.unusedVariables false
set_option linter.unusedSimpArgs false
set_option maxRecDepth 10000
set_option maxHeartbeats 8000000
theorem up8_3 (b l:Nat):(upT 8 b).s 3 l=.slm 3 l:=rfl
theorem up8_6 (b l:Nat):(upT 8 b).s 6 l=.slm 6 l:=rfl
theorem up8_8 (b l:Nat):(upT 8 b).s 8 l=.slm b l:=rfl
theorem uq8_2 (b:Nat) (o:Option Blk):upP 8 b (2,o)=(2,o.map fun B=>B.tr (upT 8 b)):=rfl
theorem uq8_3 (b:Nat) (o:Option Blk):upP 8 b (3,o)=(3,o.map fun B=>B.tr (upT 8 b)):=rfl
theorem uq8_6 (b:Nat) (o:Option Blk):upP 8 b (6,o)=(6,o.map fun B=>B.tr (upT 8 b)):=rfl
theorem uq8_8 (b:Nat) (o:Option Blk):upP 8 b (8,o)=(b,o.map fun B=>B.tr (upT 8 b)):=rfl
theorem len_ix {N:Nat} (h:N≤1000000):IntKind.wrap .i64 (IntKind.wrap .i64 ((N:Int).tdiv 2) - 1)=((N / 2:Nat):Int) - 1:=by
  have e3:IntKind.wrap .i64 ((N:Int) / 2)=(N:Int) / 2:=wrap64 (by omega) (by omega)
  rw [Int.tdiv_eq_ediv_of_nonneg (by omega),e3,wrap64 (by omega) (by omega)]; omega
set_option linter.defProp false
def qU8:=And.intro (And.intro (And.intro (@up8_3) (@up8_6)) (And.intro (@up8_8) (@uq8_2))) (And.intro (And.intro (@uq8_3) (@uq8_6)) (And.intro (@uq8_8) (And.intro (@Option.map_some.{0,0}) (@Option.map_none.{0,0}))))
def F193:AFn:=⟨17,(.seq (.reg [o1 4 (.mv 0),o1 5 (.invoke 4 [(17,311),(168,314)] []),o1 2 (.mv 5)]) (.seq (.reg [o1 6 (.mv 2),o1 7 (.bin .quo 6 (ci 2)),o1 8 (.bin .sub 7 (ci 1)),o1 3 (.mv 8)]) (.block 0 (.loop (.seq (.seq (.reg [o1 9 (.mv 3),o1 10 (.bin .geq 9 (ci 0))]) (.cond 10 .skip (.exit 0))) (.seq (.block 1 (.reg [o1 13 (.mv 0),o1 14 (.mv 3),o1 15 (.mv 2),o1 16 (.call 244 [13,14,15])])) (.reg [o1 11 (.mv 3),o1 12 (.bin .sub 11 (ci 1)),o1 3 (.mv 12)]))))))),[]⟩
theorem x193:xf Tryz.prog 193=some F193:=by kernel_rfl
theorem con193 {l:List Due} {N:Nat} (hN:l.length=N) (hl:N≤1000000):MCb Tryz.prog 193 [.iface 168 (.ptr 2 0 0)] (.tup [],inlU [(2,.rows 169 1 [[.slm 3 N]]),(3,.rows 51 2 ((l).map encD))] [(2,.rows 169 1 [[.slm 3 N]]),(3,.rows 51 2 ((hInit l).map encD))],[]) (AM.get [(2,.rows 169 1 [[.slm 3 N]]),(3,.rows 51 2 ((l).map encD))]) 8:=by
  suffices hh:∀ e,(∀ h b,hIn N (N / 2) l=h→FinS 8 [(2,.rows 169 1 [[.slm 3 N]]),(3,.rows 51 2 ((l).map encD))] e (.tup []) [(2,.rows 169 1 [[.slm 3 N]]),(3,.rows 51 2 ((h).map encD))] b)→MCb Tryz.prog 193 [.iface 168 (.ptr 2 0 0)] e (AM.get [(2,.rows 169 1 [[.slm 3 N]]),(3,.rows 51 2 ((l).map encD))]) 8 from hh _ fun h b e=>by subst e; unfold hInit; rw [hN]; exact fin_hr (.inl rfl) rfl
  intro e hf
  refine mcb_of_vc mix x193 (by simp [F193]) fun hw _=>?_
  clear hw
  have zd:=qD
  have hix:=len_ix hl
  repeat' with_reducible first|refine gTn_of (fun h=>?_) (fun h=>?_)|refine gT_of (fun h=>?_) (fun h=>?_)|refine caseTn_of (fun h=>?_) (fun h=>?_)|refine caseT_of (fun h=>?_) (fun h=>?_)|refine FN ?_ ?_ ?_ ?_ rfl ?_|refine kv_ifn ?_ ?_|refine kv_if ?_ ?_|refine k_if ?_ ?_|refine I2 mix x314 lf314 ?_ ?_ ?_ ?_ ?_|refine IA ?_ ?_ ?_|refine L1 ?_ ?_|refine L2 ?_ ?_|refine L3 ?_ ?_ ?_ ?_|refine L4 ?_ ?_|refine L5 ?_ ?_ ?_ ?_ ?_|refine L6 ?_ ?_ ?_ ?_ ?_|refine I3 mix x314 lf314 ?_ ?_ ?_ ?_ ?_|refine inr_fin ?_ ?_ ?_ ?_|refine AC.mc 8 (con244 ?_ ?_ ?_ ?_ ?_) ?_ ?_ (by simp -implicitDefEqProofs only [qA,ld_0,ld_pv,st_0,splice,doEqs,qU,List.reduceReplicate,Nat.reduceAdd,Nat.reduceSub,Nat.reduceLeDiff,Nat.reduceEqDiff,Nat.reduceMul,reduceIte,reduceCtorEq,qI,Nat.reduceLT,Nat.reduceBEq,qM, *]; exact rfl) (by exact rfl) ?_ ?_ ?_ ?_ ?_|simp -implicitDefEqProofs only [F193,qA,ld_0,ld_pv,st_0,splice,doEqs,qU,List.reduceReplicate,Nat.reduceAdd,Nat.reduceSub,Nat.reduceLeDiff,Nat.reduceEqDiff,Nat.reduceMul,reduceIte,reduceCtorEq,qI,Nat.reduceLT,Nat.reduceBEq,F314,up_s,Int.toNat_natCast,encT,v_invoke,ik_s,doIaddr,nl_s,nl_0,lm_normal,lm_exit,lm_ret,qU8,Int.reduceSub,Int.reduceNeg,Int.natCast_zero,Int.reduceLE,Int.reduceGE, *]
  all_goals first
    | refine lm_of 9 (fun s:Nat×List Due=>some (.iface 168 (.ptr 2 0 0)) :: nl 1 (some (.int .i64 N) :: some (.int .i64 ((s.1:Int) - 1)) :: nl 13 [])) (fun s=>[(2,.rows 169 1 [[.slm 3 N]]),(3,.rows 51 2 ((s.2).map encD))]) (fun s=>s.2.length=N∧s.1≤N / 2∧hIn N s.1 s.2=hIn N (N / 2) l) (fun s=>s.1) [] [] (N / 2,l) (by omega) ?_ ?_ ?_ ?_ ?_ ?_
    | omega
    | trace_state
  rotate_right
  · clear hix
    rintro ⟨k,G⟩ ⟨h2,h1,h3⟩
    simp only [] at h1 h2 h3
    have hq:∀ j:Nat,((j+1:Nat):Int) - 1=(j:Int):=fun j=>by omega
    have hq2:∀ j:Nat,decide ((j:Int)≥0)=true:=fun j=>decide_eq_true (by omega)
    have hq3:∀ j:Nat,k=j+1→IntKind.wrap .i64 ((j:Int) - 1)=(j:Int) - 1:=fun j e=>wrap64 (by omega) (by omega)
    rcases k with _ | k
    all_goals
      simp only [all_some,all_none,all_nil,nl_s,nl_0]
      intros
      repeat' with_reducible first|refine gTn_of (fun h=>?_) (fun h=>?_)|refine gT_of (fun h=>?_) (fun h=>?_)|refine caseTn_of (fun h=>?_) (fun h=>?_)|refine caseT_of (fun h=>?_) (fun h=>?_)|refine FN ?_ ?_ ?_ ?_ rfl ?_|refine kv_ifn ?_ ?_|refine kv_if ?_ ?_|refine k_if ?_ ?_|refine I2 mix x314 lf314 ?_ ?_ ?_ ?_ ?_|refine IA ?_ ?_ ?_|refine L1 ?_ ?_|refine L2 ?_ ?_|refine L3 ?_ ?_ ?_ ?_|refine L4 ?_ ?_|refine L5 ?_ ?_ ?_ ?_ ?_|refine L6 ?_ ?_ ?_ ?_ ?_|refine I3 mix x314 lf314 ?_ ?_ ?_ ?_ ?_|refine inr_fin ?_ ?_ ?_ ?_|refine AC.mc 8 (con244 ?_ ?_ ?_ ?_ ?_) ?_ ?_ (by simp -implicitDefEqProofs only [qA,ld_0,ld_pv,st_0,splice,doEqs,qU,List.reduceReplicate,Nat.reduceAdd,Nat.reduceSub,Nat.reduceLeDiff,Nat.reduceEqDiff,Nat.reduceMul,reduceIte,reduceCtorEq,qI,Nat.reduceLT,Nat.reduceBEq,qM, *]; exact rfl) (by exact rfl) ?_ ?_ ?_ ?_ ?_|refine rm_of [] [] (k,(hDown N G k).1) ?_ ?_ ?_ ?_ ?_ ?_|simp -implicitDefEqProofs only [F193,qA,ld_0,ld_pv,st_0,splice,doEqs,qU,List.reduceReplicate,Nat.reduceAdd,Nat.reduceSub,Nat.reduceLeDiff,Nat.reduceEqDiff,Nat.reduceMul,reduceIte,reduceCtorEq,qI,Nat.reduceLT,Nat.reduceBEq,F314,up_s,Int.toNat_natCast,encT,v_invoke,ik_s,doIaddr,nl_s,nl_0,lm_normal,lm_exit,lm_ret,qU8,Int.reduceSub,Int.reduceNeg,Int.natCast_zero,Int.reduceLE,Int.reduceGE, *]
    all_goals first
      | omega
      | exact .inl rfl
      | exact h2
      | exact hf _ _ h3.symm
      | exact ⟨by rw [hDown_len]; exact h2,by omega,h3⟩
      | trace_state
  all_goals first
    | omega
    | exact ⟨hN,by omega,rfl⟩
    | (simp -implicitDefEqProofs only [qA,ld_0,ld_pv,st_0,splice,doEqs,qU,List.reduceReplicate,Nat.reduceAdd,Nat.reduceSub,Nat.reduceLeDiff,Nat.reduceEqDiff,Nat.reduceMul,reduceIte,reduceCtorEq,qI,Nat.reduceLT,Nat.reduceBEq,qZ,nl_s,nl_0,qD]; first | done | exact rfl | (simp; done))
    | trace_state

theorem slm_to {κ:Ef→Prop} {f:Nat→Option Blk} {g0 sz g len t:Nat} {rs:List (List AV)} {k:IntKind} {h:Int} (hm:f g=some (.rows t sz rs)) (h0:0≤h∧h≤len) (hl:len=rs.length) (hk:κ (.slm g0 h.toNat,[(g,none),(g0,some (.rows t sz (rs.take h.toNat)))],[g])):okK (doSlc f g0 sz (.slm g len) none (some (.int k h))) κ:=by
  have:doSlc f g0 sz (.slm g len) none (some (.int k h))=some { v:=.slm g0 h.toNat,ups:=[(g,none),(g0,some (.rows t sz (rs.take h.toNat)))],rd:=[g] }:=by
    simp only [doSlc,hm]
    rw [if_pos ⟨trivial,h0.1,h0.2,hl⟩]
  rw [this]
  exact hk
theorem tm_d (n:Nat) (l:List Due):(l.map encD).take n=(l.take n).map encD:=List.map_take.symm
theorem fin_pop {m0:AM} {n b x:Nat} (hx:8≤x) {h:List Due} {v:AV} (hv:v.pure=true):FinS 8 m0 (v,inlU m0 [(2,.rows 169 1 [[.slm 8 n]]),(8,.rows 51 2 ((h).map encD))],[]) v [(2,.rows 169 1 [[.slm x n]]),(x,.rows 51 2 ((h).map encD))] b :=
  fin_in [] [(x,8)] (by simp [stOk]; omega) rfl (by simp [stM,stT,nameT,lk,AV.tr,Blk.tr,trss,trs,ts_d,show ¬ x<8 by omega]) (by simp) (AV.tr_pure _ _ hv)
theorem con244z {r:Nat} (hr:r=3∨r=6) {l:List Due} {n N:Nat} (hN:l.length=N) (hn:n≤N) (hl:N≤1000000):MCb Tryz.prog 244 [.iface 168 (.ptr 2 0 0),.int .i64 0,.int .i64 n] (.bool (decide (((0:Nat):Int)<((hDown n l 0).2:Int))),inlU [(2,.rows 169 1 [[.slm r N]]),(r,.rows 51 2 ((l).map encD))] [(2,.rows 169 1 [[.slm r N]]),(r,.rows 51 2 (((hDown n l 0).1).map encD))],[]) (AM.get [(2,.rows 169 1 [[.slm r N]]),(r,.rows 51 2 ((l).map encD))]) 8 :=
  con244 (i0:=0) hr hN (Nat.zero_le _) hn hl
def F194:AFn:=⟨15,(.seq (.reg [o1 2 (.mv (.const .ifnil))]) (.seq (.reg [o1 4 (.mv 0),o1 5 (.invoke 4 [(17,311),(168,314)] []),o1 6 (.bin .sub 5 (ci 1)),o1 3 (.mv 6)]) (.seq (.reg [o1 7 (.mv 0),o1 8 (.mv 3),o1 9 (.invoke 7 [(168,318)] [(ci 0),8])]) (.seq (.reg [o1 10 (.mv 0),o1 11 (.mv 3),o1 12 (.call 244 [10,(ci 0),11])]) (.seq (.reg [o1 13 (.mv 0),o1 14 (.invoke 13 [(168,316)] []),o1 2 (.mv 14)]) .ret))))),[(2,none)]⟩
theorem x194:xf Tryz.prog 194=some F194:=by kernel_rfl
theorem con194 {r:Nat} (hr:r=3∨r=6) {l:List Due} {n:Nat} (hN:l.length=n+1) (hl:n+1≤1000000):MCb Tryz.prog 194 [.iface 168 (.ptr 2 0 0)] (.iface 51 (.agg (encD ((hTop l).getD n default))),inlU [(2,.rows 169 1 [[.slm r (n+1)]]),(r,.rows 51 2 ((l).map encD))] [(2,.rows 169 1 [[.slm 8 n]]),(8,.rows 51 2 (((hTop l).take n).map encD))],[]) (AM.get [(2,.rows 169 1 [[.slm r (n+1)]]),(r,.rows 51 2 ((l).map encD))]) 8:=by
  suffices hh:∀ e,(∀ h x b,hTop l=h→8≤x→FinS 8 [(2,.rows 169 1 [[.slm r (n+1)]]),(r,.rows 51 2 ((l).map encD))] e (.iface 51 (.agg (encD ((h).getD n default)))) [(2,.rows 169 1 [[.slm x n]]),(x,.rows 51 2 ((h.take n).map encD))] b)→MCb Tryz.prog 194 [.iface 168 (.ptr 2 0 0)] e (AM.get [(2,.rows 169 1 [[.slm r (n+1)]]),(r,.rows 51 2 ((l).map encD))]) 8 from hh _ fun h x b e hx=>by subst e; exact fin_pop hx rfl
  intro e hf
  have ht:(hDown n (hSwap l 0 n) 0).1=hTop l:=by unfold hTop; rw [hN]; rfl
  have hw1:IntKind.wrap .i64 (((n+1:Nat):Int) - 1)=(n:Int):=by rw [wrap64 (by omega) (by omega)]; omega
  have hl2:(hTop l).length=n+1:=by rw [hTop_len]; exact hN
  have hl3:(hSwap l 0 n).length=n+1:=by rw [hSwap_len]; exact hN
  have hs:((l.set 0 (l.getD n default)).set n (l.getD 0 default))=hSwap l 0 n:=rfl
  rcases hr with rfl | rfl
  all_goals
    refine mcb_of_vc mix x194 (by simp [F194]) fun hw _=>?_
    clear hw
    have zd:=qD
    repeat' with_reducible first|refine gTn_of (fun h=>?_) (fun h=>?_)|refine gT_of (fun h=>?_) (fun h=>?_)|refine caseTn_of (fun h=>?_) (fun h=>?_)|refine caseT_of (fun h=>?_) (fun h=>?_)|refine FN ?_ ?_ ?_ ?_ rfl ?_|refine kv_ifn ?_ ?_|refine kv_if ?_ ?_|refine k_if ?_ ?_|refine I2 mix x314 lf314 ?_ ?_ ?_ ?_ ?_|refine I2 mix x318 lf318 ?_ ?_ ?_ ?_ ?_|refine I2 mix x316 lf316 ?_ ?_ ?_ ?_ ?_|refine IA ?_ ?_ ?_|refine L1 ?_ ?_|refine L2 ?_ ?_|refine L3 ?_ ?_ ?_ ?_|refine L4 ?_ ?_|refine L5 ?_ ?_ ?_ ?_ ?_|refine L6 ?_ ?_ ?_ ?_ ?_|refine I3 mix x314 lf314 ?_ ?_ ?_ ?_ ?_|refine inr_fin ?_ ?_ ?_ ?_|refine I2 mix x318 lf318 ?_ ?_ ?_ ?_ ?_|refine I2 mix x316 lf316 ?_ ?_ ?_ ?_ ?_|refine IA ?_ ?_ ?_|refine AC.mc 8 (con244z ?_ ?_ ?_ ?_) ?_ ?_ (by simp -implicitDefEqProofs only [qA,ld_0,ld_pv,st_0,splice,doEqs,qU,List.reduceReplicate,Nat.reduceAdd,Nat.reduceSub,Nat.reduceLeDiff,Nat.reduceEqDiff,Nat.reduceMul,reduceIte,reduceCtorEq,qI,Nat.reduceLT,Nat.reduceBEq,qM, *]; exact rfl) (by exact rfl) ?_ ?_ ?_ ?_ ?_|refine st_row (enc:=encD) (d:=default) (by simp -implicitDefEqProofs only [m_get,Nat.reduceEqDiff,reduceIte,if_true,if_false]; first|done|exact rfl) ?_ ?_ ?_ ?_ (sp_d _ _) ?_|refine slm_to (by simp -implicitDefEqProofs only [m_get,Nat.reduceEqDiff,reduceIte,if_true,if_false]; first|done|exact rfl) ?_ ?_ ?_|simp -implicitDefEqProofs only [F194,qA,ld_0,ld_pv,st_0,splice,doEqs,qU,List.reduceReplicate,Nat.reduceAdd,Nat.reduceSub,Nat.reduceLeDiff,Nat.reduceEqDiff,Nat.reduceMul,reduceIte,reduceCtorEq,qI,Nat.reduceLT,Nat.reduceBEq,F314,F318,F316,up_s,Int.toNat_natCast,encT,v_invoke,ik_s,doIaddr,nl_s,nl_0,qU8,tm_d, *]
  all_goals first
    | omega
    | (constructor <;> omega)
    | exact .inl rfl
    | exact .inr rfl
    | (have h9:(hDown n (hSwap l 0 n) 0).1.length=n+1:=by rw [ht]; exact hl2
       unfold hSwap at h9; simp only [Int.toNat_zero]; omega)
    | exact hf _ _ _ ht.symm (by omega)
    | trace_state

def F136:AFn:=⟨15,(.seq (.reg [o1 2 (.mv (.const .slnil))]) (.seq (.reg [o1 3 (.mv 0),o1 4 (.call 193 [3])]) (.seq (.block 0 (.loop (.seq (.seq (.reg [o1 5 (.mv 0),o1 6 (.invoke 5 [(17,311),(168,314)] []),o1 7 (.bin .gtr 6 (ci 0))]) (.cond 7 .skip (.exit 0))) (.block 1 (.reg [o1 8 (.mv 2),o1 9 (.mv 0),o1 10 (.call 194 [9]),o1 11 (.tassert 51 false 10),o1 12 (.bslice 51 2 1 [11]),o1 13 (.app 51 2 16 8 12),o1 2 (.mv 13)]))))) (.seq (.reg [o1 14 (.mv 2),o1 2 (.mv 14)]) .ret)))),[(2,none)]⟩
theorem x136:xf Tryz.prog 136=some F136:=by kernel_rfl
theorem con136 {l:List Due} {N:Nat} (hN:l.length=N) (hp:1≤N) (hl:N≤1000000):MCb Tryz.prog 136 [.iface 168 (.ptr 2 0 0)] (.slv 2 ((hAll N (hInit l)).map encD),inlU [(2,.rows 169 1 [[.slm 3 N]]),(3,.rows 51 2 ((l).map encD))] [(2,.rows 169 1 [[.slm 6 0]]),(6,.rows 51 2 [])],[]) (AM.get [(2,.rows 169 1 [[.slm 3 N]]),(3,.rows 51 2 ((l).map encD))]) 5:=by
  suffices hh:∀ e,(∀ o b,hAll N (hInit l)=o→FinS 5 [(2,.rows 169 1 [[.slm 3 N]]),(3,.rows 51 2 ((l).map encD))] e (.slm 5 o.length) [(5,.rows 51 2 (o.map encD)),(2,.rows 169 1 [[.slm 6 0]]),(6,.rows 51 2 [])] b)→MCb Tryz.prog 136 [.iface 168 (.ptr 2 0 0)] e (AM.get [(2,.rows 169 1 [[.slm 3 N]]),(3,.rows 51 2 ((l).map encD))]) 5 from
    hh _ fun o b e=>by subst e; exact fin_wk [5] [(6,6)] (by simp [stOk]) (by simp [zPure,AM.get,pureB,puress_map pure_encD]) (by simp [stM,stT,nameT,lk,AV.tr,Blk.tr,trss,trs]) (by simp) (Wk.of_eq (by simp [stT,AV.tr,frzS,AM.get,take_mapl]))
  intro e hf
  refine mcb_of_vc mix x136 (by simp [F136]) fun hw _=>?_
  clear hw
  have zd:=qD
  repeat' with_reducible first|refine gTn_of (fun h=>?_) (fun h=>?_)|refine gT_of (fun h=>?_) (fun h=>?_)|refine caseTn_of (fun h=>?_) (fun h=>?_)|refine caseT_of (fun h=>?_) (fun h=>?_)|refine FN ?_ ?_ ?_ ?_ rfl ?_|refine kv_ifn ?_ ?_|refine kv_if ?_ ?_|refine k_if ?_ ?_|refine I2 mix x314 lf314 ?_ ?_ ?_ ?_ ?_|refine IA ?_ ?_ ?_|refine L1 ?_ ?_|refine L2 ?_ ?_|refine L3 ?_ ?_ ?_ ?_|refine L4 ?_ ?_|refine L5 ?_ ?_ ?_ ?_ ?_|refine L6 ?_ ?_ ?_ ?_ ?_|refine I3 mix x314 lf314 ?_ ?_ ?_ ?_ ?_|refine inr_fin ?_ ?_ ?_ ?_|refine AC.mc 8 (con193 ?_ ?_) ?_ ?_ (by simp -implicitDefEqProofs only [qA,ld_0,ld_pv,st_0,splice,doEqs,qU,List.reduceReplicate,Nat.reduceAdd,Nat.reduceSub,Nat.reduceLeDiff,Nat.reduceEqDiff,Nat.reduceMul,reduceIte,reduceCtorEq,qI,Nat.reduceLT,Nat.reduceBEq,qM, *]; exact rfl) (by exact rfl) ?_ ?_ ?_ ?_ ?_|refine AC.mc 8 (con194 ?_ ?_ ?_) ?_ ?_ (by simp -implicitDefEqProofs only [qA,ld_0,ld_pv,st_0,splice,doEqs,qU,List.reduceReplicate,Nat.reduceAdd,Nat.reduceSub,Nat.reduceLeDiff,Nat.reduceEqDiff,Nat.reduceMul,reduceIte,reduceCtorEq,qI,Nat.reduceLT,Nat.reduceBEq,qM, *]; exact rfl) (by exact rfl) ?_ ?_ ?_ ?_ ?_|refine ap_nil (rw_slm _ _ _ _ _ _ (by simp -implicitDefEqProofs only [m_get,Nat.reduceEqDiff,reduceIte,if_true,if_false]; first|done|exact rfl) ?_) ?_ ?_ ?_ ?_|refine ap_of (rw_slm _ _ _ _ _ _ (by simp -implicitDefEqProofs only [m_get,Nat.reduceEqDiff,reduceIte,if_true,if_false]; first|done|exact rfl) ?_) (by simp -implicitDefEqProofs only [m_get,Nat.reduceEqDiff,reduceIte,if_true,if_false]; first|done|exact rfl) ?_ ?_ ?_ ?_|simp -implicitDefEqProofs only [F136,qA,ld_0,ld_pv,st_0,splice,doEqs,qU,List.reduceReplicate,Nat.reduceAdd,Nat.reduceSub,Nat.reduceLeDiff,Nat.reduceEqDiff,Nat.reduceMul,reduceIte,reduceCtorEq,qI,Nat.reduceLT,Nat.reduceBEq,F314,up_s,Int.toNat_natCast,encT,v_invoke,ik_s,doIaddr,nl_s,nl_0,qU8,lm_normal,lm_exit,lm_ret,doBslice,trss_append,List.map_append,doTassert, *]
  all_goals first
    | refine lm_of 9 (fun s:Nat×List Due×List Due=>some (.iface 168 (.ptr 2 0 0)) :: nl 1 (some (if s.2.2=[] then .slnil else .slm 5 s.2.2.length) :: nl 12 [])) (fun s=>if s.2.2=[] then [(2,.rows 169 1 [[.slm 3 s.1]]),(3,.rows 51 2 ((s.2.1).map encD))] else [(2,.rows 169 1 [[.slm 6 s.1]]),(6,.rows 51 2 ((s.2.1).map encD)),(5,.rows 51 2 ((s.2.2).map encD))]) (fun s=>s.2.1.length=s.1∧(s.2.2=[]→s.1=N)∧s.2.2.length+s.1=N∧s.2.2 ++ hAll s.1 s.2.1=hAll N (hInit l)) (fun s=>s.1) [] [] (N,hInit l,[]) (by omega) ?_ ?_ ?_ ?_ ?_ ?_
    | omega
    | trace_state
  rotate_right
  · rintro ⟨m,G,o⟩ ⟨h1,h2,h3,h4⟩
    simp only [] at h1 h2 h3 h4
    have h2':o=[]→N≤m:=fun h=>Nat.le_of_eq (h2 h).symm
    clear h2
    simp only [all_some,all_none,all_nil,nl_s,nl_0]
    intros
    have ho2:∀ x:Due,(o ++ [x]=[])=False:=fun x=>by simp
    have hd:∀ k:Nat,decide (((k+1:Nat):Int) > 0)=true:=fun k=>decide_eq_true (by omega)
    have hd0:decide (((0:Nat):Int) > 0)=false:=rfl
    rcases m with _ | m
    · have ho:¬ o=[]:=fun h=>by have:=h2' h; omega
      obtain rfl:=List.eq_nil_of_length_eq_zero h1
      have hfo:=fun b=>hf o b (by rw [← h4]; simp [hAll])
      simp only [if_neg ho]
      repeat' with_reducible first|refine gTn_of (fun h=>?_) (fun h=>?_)|refine gT_of (fun h=>?_) (fun h=>?_)|refine caseTn_of (fun h=>?_) (fun h=>?_)|refine caseT_of (fun h=>?_) (fun h=>?_)|refine FN ?_ ?_ ?_ ?_ rfl ?_|refine kv_ifn ?_ ?_|refine kv_if ?_ ?_|refine k_if ?_ ?_|refine I2 mix x314 lf314 ?_ ?_ ?_ ?_ ?_|refine IA ?_ ?_ ?_|refine L1 ?_ ?_|refine L2 ?_ ?_|refine L3 ?_ ?_ ?_ ?_|refine L4 ?_ ?_|refine L5 ?_ ?_ ?_ ?_ ?_|refine L6 ?_ ?_ ?_ ?_ ?_|refine I3 mix x314 lf314 ?_ ?_ ?_ ?_ ?_|refine inr_fin ?_ ?_ ?_ ?_|refine AC.mc 8 (con193 ?_ ?_) ?_ ?_ (by simp -implicitDefEqProofs only [qA,ld_0,ld_pv,st_0,splice,doEqs,qU,List.reduceReplicate,Nat.reduceAdd,Nat.reduceSub,Nat.reduceLeDiff,Nat.reduceEqDiff,Nat.reduceMul,reduceIte,reduceCtorEq,qI,Nat.reduceLT,Nat.reduceBEq,qM, *]; exact rfl) (by exact rfl) ?_ ?_ ?_ ?_ ?_|refine AC.mc 8 (con194 ?_ ?_ ?_) ?_ ?_ (by simp -implicitDefEqProofs only [qA,ld_0,ld_pv,st_0,splice,doEqs,qU,List.reduceReplicate,Nat.reduceAdd,Nat.reduceSub,Nat.reduceLeDiff,Nat.reduceEqDiff,Nat.reduceMul,reduceIte,reduceCtorEq,qI,Nat.reduceLT,Nat.reduceBEq,qM, *]; exact rfl) (by exact rfl) ?_ ?_ ?_ ?_ ?_|refine ap_nil (rw_slm _ _ _ _ _ _ (by simp -implicitDefEqProofs only [m_get,Nat.reduceEqDiff,reduceIte,if_true,if_false]; first|done|exact rfl) ?_) ?_ ?_ ?_ ?_|refine ap_of (rw_slm _ _ _ _ _ _ (by simp -implicitDefEqProofs only [m_get,Nat.reduceEqDiff,reduceIte,if_true,if_false]; first|done|exact rfl) ?_) (by simp -implicitDefEqProofs only [m_get,Nat.reduceEqDiff,reduceIte,if_true,if_false]; first|done|exact rfl) ?_ ?_ ?_ ?_|simp -implicitDefEqProofs only [F136,qA,ld_0,ld_pv,st_0,splice,doEqs,qU,List.reduceReplicate,Nat.reduceAdd,Nat.reduceSub,Nat.reduceLeDiff,Nat.reduceEqDiff,Nat.reduceMul,reduceIte,reduceCtorEq,qI,Nat.reduceLT,Nat.reduceBEq,F314,up_s,Int.toNat_natCast,encT,v_invoke,ik_s,doIaddr,nl_s,nl_0,qU8,lm_normal,lm_exit,lm_ret,doBslice,trss_append,List.map_append,doTassert, *]
      all_goals first
        | omega
        | exact hfo _
        | trace_state
    · by_cases ho:o=[]
      all_goals simp only [ho,if_true,if_false]
      repeat' with_reducible first|refine gTn_of (fun h=>?_) (fun h=>?_)|refine gT_of (fun h=>?_) (fun h=>?_)|refine caseTn_of (fun h=>?_) (fun h=>?_)|refine caseT_of (fun h=>?_) (fun h=>?_)|refine FN ?_ ?_ ?_ ?_ rfl ?_|refine kv_ifn ?_ ?_|refine kv_if ?_ ?_|refine k_if ?_ ?_|refine I2 mix x314 lf314 ?_ ?_ ?_ ?_ ?_|refine IA ?_ ?_ ?_|refine L1 ?_ ?_|refine L2 ?_ ?_|refine L3 ?_ ?_ ?_ ?_|refine L4 ?_ ?_|refine L5 ?_ ?_ ?_ ?_ ?_|refine L6 ?_ ?_ ?_ ?_ ?_|refine I3 mix x314 lf314 ?_ ?_ ?_ ?_ ?_|refine inr_fin ?_ ?_ ?_ ?_|refine AC.mc 8 (con193 ?_ ?_) ?_ ?_ (by simp -implicitDefEqProofs only [qA,ld_0,ld_pv,st_0,splice,doEqs,qU,List.reduceReplicate,Nat.reduceAdd,Nat.reduceSub,Nat.reduceLeDiff,Nat.reduceEqDiff,Nat.reduceMul,reduceIte,reduceCtorEq,qI,Nat.reduceLT,Nat.reduceBEq,qM, *]; exact rfl) (by exact rfl) ?_ ?_ ?_ ?_ ?_|refine AC.mc 8 (con194 ?_ ?_ ?_) ?_ ?_ (by simp -implicitDefEqProofs only [qA,ld_0,ld_pv,st_0,splice,doEqs,qU,List.reduceReplicate,Nat.reduceAdd,Nat.reduceSub,Nat.reduceLeDiff,Nat.reduceEqDiff,Nat.reduceMul,reduceIte,reduceCtorEq,qI,Nat.reduceLT,Nat.reduceBEq,qM, *]; exact rfl) (by exact rfl) ?_ ?_ ?_ ?_ ?_|refine ap_nil (rw_slm _ _ _ _ _ _ (by simp -implicitDefEqProofs only [m_get,Nat.reduceEqDiff,reduceIte,if_true,if_false]; first|done|exact rfl) ?_) ?_ ?_ ?_ ?_|refine ap_of (rw_slm _ _ _ _ _ _ (by simp -implicitDefEqProofs only [m_get,Nat.reduceEqDiff,reduceIte,if_true,if_false]; first|done|exact rfl) ?_) (by simp -implicitDefEqProofs only [m_get,Nat.reduceEqDiff,reduceIte,if_true,if_false]; first|done|exact rfl) ?_ ?_ ?_ ?_|refine rm_of [] [(89,6),(137,5)] (m,(hTop G).take m,o ++ [(hTop G).getD m default]) ?_ ?_ ?_ ?_ ?_ ?_|simp -implicitDefEqProofs only [F136,qA,ld_0,ld_pv,st_0,splice,doEqs,qU,List.reduceReplicate,Nat.reduceAdd,Nat.reduceSub,Nat.reduceLeDiff,Nat.reduceEqDiff,Nat.reduceMul,reduceIte,reduceCtorEq,qI,Nat.reduceLT,Nat.reduceBEq,F314,up_s,Int.toNat_natCast,encT,v_invoke,ik_s,doIaddr,nl_s,nl_0,qU8,lm_normal,lm_exit,lm_ret,doBslice,trss_append,List.map_append,doTassert, *]
      all_goals first
        | omega
        | (subst ho; exact ⟨by rw [List.length_take,hTop_len,h1]; omega,fun h=>h.elim,by simp at h3; omega,h4⟩)
        | exact ⟨by rw [List.length_take,hTop_len,h1]; omega,fun h=>h.elim,by omega,h4⟩
        | trace_state
  all_goals first
    | omega
    | exact ⟨by rw [hInit_len]; exact hN,fun _=>rfl,by simp,rfl⟩
    | (simp -implicitDefEqProofs only [qA,ld_0,ld_pv,st_0,splice,doEqs,qU,List.reduceReplicate,Nat.reduceAdd,Nat.reduceSub,Nat.reduceLeDiff,Nat.reduceEqDiff,Nat.reduceMul,reduceIte,reduceCtorEq,qI,Nat.reduceLT,Nat.reduceBEq,qZ,nl_s,nl_0,qD]; first | done | exact rfl | (simp; done))
    | trace_state

end Go.Sak
