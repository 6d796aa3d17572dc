/- Part S105 of the proofs about the program: K205, K206. Conditions: none. -/
import Derived.Test.YtahdilehajdhgaaGreatS104
import Derived.Test.YtahdilehajdhgaaGreatS04
import Derived.Test.YtahdilehajdhgaaGreatProg
import Derived.KernelRfl
namespace Go.Sak
open Go Go.RowKit Go.Proofs
set_option linter.unusedVariables false
set_option linter.unusedSimpArgs false
set_option maxRecDepth 10000
set_option maxHeartbeats 8000000
theorem up40_37 (b l:Nat):(upT 40 b).s 37 l=.slm 37 l:=rfl
theorem uq40_2 (b:Nat) (o:Option Blk):upP 40 b (2,o)=(2,o.map fun B=>B.tr (upT 40 b)):=rfl
theorem uq40_37 (b:Nat) (o:Option Blk):upP 40 b (37,o)=(37,o.map fun B=>B.tr (upT 40 b)):=rfl
theorem fin_psh {m0:AM} {N b x:Nat} (hx:5≤x) {h:List Due}:FinS 5 m0 (.tup [],inlU m0 [(2,.rows 169 1 [[.slm 5 (N+1)]]),(5,.rows 51 2 ((h).map encD))],[]) (.tup []) [(2,.rows 169 1 [[.slm x (N+1)]]),(x,.rows 51 2 ((h).map encD))] b :=
  fin_in [] [(x,5)] (by simp [stOk]; omega) rfl (by simp [stM,stT,nameT,lk,AV.tr,Blk.tr,trss,trs,ts_d,show ¬ x<5 by omega]) (by simp) (AV.tr_pure _ _ rfl)
theorem ap_d (l:List Due) (d:Due):l.map encD ++ [encD d]=(l ++ [d]).map encD:=by simp
def F317:AFn:=⟨13,(.regT [o1 4 (.mv 0),o1 5 (.mv 0),o1 6 (.nilchk 5),o1 7 (.ld 1 false 6),o1 8 (.mv 1),o1 9 (.tassert 51 false 8),o1 10 (.bslice 51 2 1 [9]),o1 11 (.app 51 2 16 7 10),o1 12 (.nilchk 4),o2 (.st 1 12 11)] [(2,6),(3,6)]),[]⟩
theorem x317:xf Tryz.prog 317=some F317:=by kernel_rfl
theorem lf317:F317.code.lf=true:=rfl
def F135:AFn:=⟨12,(.seq (.reg [o1 4 (.mv 0),o1 5 (.mv 1),o1 6 (.invoke 4 [(168,317)] [5])]) (.reg [o1 7 (.mv 0),o1 8 (.mv 0),o1 9 (.invoke 8 [(17,311),(168,314)] []),o1 10 (.bin .sub 9 (ci 1)),o1 11 (.call 192 [7,10])])),[]⟩
theorem x135:xf Tryz.prog 135=some F135:=by kernel_rfl
theorem con135 {l:List Due} {d:Due} {N:Nat} (hN:l.length=N) (hl:N≤100000):MCb Tryz.prog 135 [.iface 168 (.ptr 2 0 0),.iface 51 (.agg (encD d))] (.tup [],inlU [(2,.rows 169 1 [[.slm 3 N]]),(3,.rows 51 2 ((l).map encD))] [(2,.rows 169 1 [[.slm 5 (N+1)]]),(5,.rows 51 2 ((hUp (l ++ [d]) N).map encD))],[]) (AM.get [(2,.rows 169 1 [[.slm 3 N]]),(3,.rows 51 2 ((l).map encD))]) 5:=by
  suffices hh:∀ e,(∀ x b,5≤x→FinS 5 [(2,.rows 169 1 [[.slm 3 N]]),(3,.rows 51 2 ((l).map encD))] e (.tup []) [(2,.rows 169 1 [[.slm x (N+1)]]),(x,.rows 51 2 ((hUp (l ++ [d]) N).map encD))] b)→MCb Tryz.prog 135 [.iface 168 (.ptr 2 0 0),.iface 51 (.agg (encD d))] e (AM.get [(2,.rows 169 1 [[.slm 3 N]]),(3,.rows 51 2 ((l).map encD))]) 5 from hh _ fun x b hx=>fin_psh hx
  intro e hf
  refine mcb_of_vc mix x135 (by simp [F135]) fun hw _=>?_
  clear hw
  have zd:=qD
  have hw1:IntKind.wrap .i64 (((N+1:Nat):Int) - 1)=(N:Int):=by rw [wrap64 (by omega) (by omega)]; omega
  repeat' with_reducible first|refine gTn_of (fun h=>?_) (fun h=>?_)|refine gT_of (fun h=>?_) (fun h=>?_)|refine caseTn_of (fun h=>?_) (fun h=>?_)|refine caseT_of (fun h=>?_) (fun h=>?_)|refine FN ?_ ?_ ?_ ?_ rfl ?_|refine kv_ifn ?_ ?_|refine kv_if ?_ ?_|refine k_if ?_ ?_|refine I2 mix x314 lf314 ?_ ?_ ?_ ?_ ?_|refine I2 mix x317 lf317 ?_ ?_ ?_ ?_ ?_|refine IA ?_ ?_ ?_|refine L1 ?_ ?_|refine L2 ?_ ?_|refine L3 ?_ ?_ ?_ ?_|refine L4 ?_ ?_|refine L5 ?_ ?_ ?_ ?_ ?_|refine L6 ?_ ?_ ?_ ?_ ?_|refine I3 mix x314 lf314 ?_ ?_ ?_ ?_ ?_|refine inr_fin ?_ ?_ ?_ ?_|refine I2 mix x317 lf317 ?_ ?_ ?_ ?_ ?_|refine IA ?_ ?_ ?_|refine AC.mc 40 (con192 ?_ ?_ ?_) ?_ ?_ (by simp -implicitDefEqProofs only [qA,ld_0,ld_pv,st_0,splice,doEqs,qU,List.reduceReplicate,Nat.reduceAdd,Nat.reduceSub,Nat.reduceLeDiff,Nat.reduceEqDiff,Nat.reduceMul,reduceIte,reduceCtorEq,qI,Nat.reduceLT,Nat.reduceBEq,qM, *]; exact rfl) (by exact rfl) ?_ ?_ ?_ ?_ ?_|refine ap_of (rw_slm _ _ _ _ _ _ (by simp -implicitDefEqProofs only [m_get,Nat.reduceEqDiff,reduceIte,if_true,if_false]; first|done|exact rfl) ?_) (by simp -implicitDefEqProofs only [m_get,Nat.reduceEqDiff,reduceIte,if_true,if_false]; first|done|exact rfl) ?_ ?_ ?_ ?_|simp -implicitDefEqProofs only [F135,qA,ld_0,ld_pv,st_0,splice,doEqs,qU,List.reduceReplicate,Nat.reduceAdd,Nat.reduceSub,Nat.reduceLeDiff,Nat.reduceEqDiff,Nat.reduceMul,reduceIte,reduceCtorEq,qI,Nat.reduceLT,Nat.reduceBEq,F314,F317,up_s,Int.toNat_natCast,encT,v_invoke,ik_s,doIaddr,nl_s,nl_0,up40_37,uq40_2,uq40_37,doTassert,doBslice,ap_d,hw1, *]
  all_goals first
    | omega
    | exact hf _ _ (by omega)
    | trace_state

theorem con193z:MCb Tryz.prog 193 [.iface 168 (.ptr 2 0 0)] (.tup [],inlU [(2,.rows 169 1 [[.slm 3 0]]),(3,.rows 51 2 [])] [(2,.rows 169 1 [[.slm 3 0]]),(3,.rows 51 2 [])],[]) (AM.get [(2,.rows 169 1 [[.slm 3 0]]),(3,.rows 51 2 [])]) 8:=by
  have:=con193 (l:=[]) (N:=0) rfl (by decide)
  rwa [show hInit []=[] from List.length_eq_zero_iff.1 (hInit_len [])] at this
theorem con136z:MCb Tryz.prog 136 [.iface 168 (.ptr 2 0 0)] (.slnil,inlU [(2,.rows 169 1 [[.slm 3 0]]),(3,.rows 51 2 [])] [(2,.rows 169 1 [[.slm 3 0]]),(3,.rows 51 2 [])],[]) (AM.get [(2,.rows 169 1 [[.slm 3 0]]),(3,.rows 51 2 [])]) 5:=by
  suffices hh:∀ e,(∀ b,FinS 5 [(2,.rows 169 1 [[.slm 3 0]]),(3,.rows 51 2 [])] e .slnil [(2,.rows 169 1 [[.slm 3 0]]),(3,.rows 51 2 [])] b)→MCb Tryz.prog 136 [.iface 168 (.ptr 2 0 0)] e (AM.get [(2,.rows 169 1 [[.slm 3 0]]),(3,.rows 51 2 [])]) 5 from hh _ fun b=>fin_in [] [] rfl rfl (by simp [stM,stT,nameT,lk,AV.tr,Blk.tr,trss,trs]) (by simp) rfl
  intro e hf
  refine mcb_of_vc mix x136 (by simp [F136]) fun hw _=>?_
  clear hw
  have zd:=qD
  repeat' with_reducible first|refine gTn_of (fun h=>?_) (fun h=>?_)|refine gT_of (fun h=>?_) (fun h=>?_)|refine caseTn_of (fun h=>?_) (fun h=>?_)|refine caseT_of (fun h=>?_) (fun h=>?_)|refine FN ?_ ?_ ?_ ?_ rfl ?_|refine kv_ifn ?_ ?_|refine kv_if ?_ ?_|refine k_if ?_ ?_|refine I2 mix x314 lf314 ?_ ?_ ?_ ?_ ?_|refine IA ?_ ?_ ?_|refine L1 ?_ ?_|refine L2 ?_ ?_|refine L3 ?_ ?_ ?_ ?_|refine L4 ?_ ?_|refine L5 ?_ ?_ ?_ ?_ ?_|refine L6 ?_ ?_ ?_ ?_ ?_|refine I3 mix x314 lf314 ?_ ?_ ?_ ?_ ?_|refine inr_fin ?_ ?_ ?_ ?_|refine AC.mc 8 (con193z ) ?_ ?_ (by simp -implicitDefEqProofs only [qA,ld_0,ld_pv,st_0,splice,doEqs,qU,List.reduceReplicate,Nat.reduceAdd,Nat.reduceSub,Nat.reduceLeDiff,Nat.reduceEqDiff,Nat.reduceMul,reduceIte,reduceCtorEq,qI,Nat.reduceLT,Nat.reduceBEq,qM, *]; exact rfl) (by exact rfl) ?_ ?_ ?_ ?_ ?_|refine lp_unroll 1 ?_ ?_|refine And.intro (Nat.le_of_ble_eq_true rfl) ?_|simp -implicitDefEqProofs only [F136,qA,ld_0,ld_pv,st_0,splice,doEqs,qU,List.reduceReplicate,Nat.reduceAdd,Nat.reduceSub,Nat.reduceLeDiff,Nat.reduceEqDiff,Nat.reduceMul,reduceIte,reduceCtorEq,qI,Nat.reduceLT,Nat.reduceBEq,F314,up_s,Int.toNat_natCast,encT,v_invoke,ik_s,doIaddr,qU8,Int.natCast_zero,Int.reduceGT,Int.reduceLT,Int.lt_irrefl,gt_iff_lt, *]
  all_goals first
    | omega
    | exact hf _
    | trace_state

end Go.Sak
