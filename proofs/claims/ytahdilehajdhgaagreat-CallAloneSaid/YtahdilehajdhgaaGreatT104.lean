/- Part T104 of the proofs about the program: K202, K203, K204, K205, K206. Conditions: none. -/
import Derived.Test.YtahdilehajdhgaaGreatT102
open Go.Sak.AM renaming get→J0
open And renaming intro→D2
open Int renaming natCast_zero→F1,reduceLE→J2,toNat_natCast→E0
open List renaming length_take→N5,map_append→J5,reduceReplicate→D1
open Nat renaming reduceAdd→D4,reduceBEq→E1,reduceEqDiff→D0,reduceLT→E2,reduceLeDiff→D3,reduceMul→D6,reduceSub→D5
open Go.Proofs.Tryz renaming prog→D8
namespace Go.Sak
open Go Go.RowKit Go.Proofs
set_option linter.unusedVariables false
set_option linter.unusedSimpArgs false
set_option maxRecDepth 10000
set_option maxHeartbeats 8000000
theorem QV (b l:Nat):(mU 8 b).s 3 l=.slm 3 l:=rfl
theorem QW (b l:Nat):(mU 8 b).s 6 l=.slm 6 l:=rfl
theorem QX (b l:Nat):(mU 8 b).s 8 l=.slm b l:=rfl
theorem QZ (b:Nat) (o:Option Blk):rG 8 b (2,o)=(2,o.map fun B=>B.tr (mU 8 b)):=rfl
theorem RA (b:Nat) (o:Option Blk):rG 8 b (3,o)=(3,o.map fun B=>B.tr (mU 8 b)):=rfl
theorem RB (b:Nat) (o:Option Blk):rG 8 b (6,o)=(6,o.map fun B=>B.tr (mU 8 b)):=rfl
theorem RC (b:Nat) (o:Option Blk):rG 8 b (8,o)=(b,o.map fun B=>B.tr (mU 8 b)):=rfl
theorem LH {N:Nat} (h:N≤1000000):IntKind.wrap .i64 (IntKind.wrap .i64 ((N:Int).tdiv 2) - 1)=((N / 2:Nat):Int) - 1:=by
  have e3:IntKind.wrap .i64 ((N:Int) / 2)=(N:Int) / 2:=bL (by omega) (by omega)
  rw [Int.tdiv_eq_ediv_of_nonneg (by omega),e3,bL (by omega) (by omega)]; omega
set_option linter.defProp false
def LS:=D2 (D2 (D2 (@QV) (@QW)) (D2 (@QX) (@QZ))) (D2 (D2 (@RA) (@RB)) (D2 (@RC) (D2 (@Option.map_some.{0,0}) (@Option.map_none.{0,0}))))
def BI:AFn:=⟨17,(.seq (.reg [o1 4 (.mv 0),o1 5 (.invoke 4 [(17,311),(168,314)] []),o1 2 (.mv 5)]) (.seq (.reg [o1 6 (.mv 2),o1 7 (.bin .quo 6 (ci 2)),o1 8 (.bin .sub 7 (ci 1)),o1 3 (.mv 8)]) (.block 0 (.loop (.seq (.seq (.reg [o1 9 (.mv 3),o1 10 (.bin .geq 9 (ci 0))]) (.cond 10 .skip (.exit 0))) (.seq (.block 1 (.reg [o1 13 (.mv 0),o1 14 (.mv 3),o1 15 (.mv 2),o1 16 (.call 244 [13,14,15])])) (.reg [o1 11 (.mv 3),o1 12 (.bin .sub 11 (ci 1)),o1 3 (.mv 12)]))))))),[]⟩
theorem XM:xf D8 193=some BI:=by kernel_rfl
theorem Fv {l:List Due} {N:Nat} (hN:l.length=N) (hl:N≤1000000):sD D8 193 [.iface 168 (.ptr 2 0 0)] (.tup [],inlU [(2,.rows 169 1 [[.slm 3 N]]),(3,.rows 51 2 ((l).map cC))] [(2,.rows 169 1 [[.slm 3 N]]),(3,.rows 51 2 ((sS l).map cC))],[]) (J0 [(2,.rows 169 1 [[.slm 3 N]]),(3,.rows 51 2 ((l).map cC))]) 8:=by
  suffices hh:∀ e,(∀ h b,HZ N (N / 2) l=h→gM 8 [(2,.rows 169 1 [[.slm 3 N]]),(3,.rows 51 2 ((l).map cC))] e (.tup []) [(2,.rows 169 1 [[.slm 3 N]]),(3,.rows 51 2 ((h).map cC))] b)→sD D8 193 [.iface 168 (.ptr 2 0 0)] e (J0 [(2,.rows 169 1 [[.slm 3 N]]),(3,.rows 51 2 ((l).map cC))]) 8 from hh _ fun h b e=>by subst e; unfold sS; rw [hN]; exact Wv (.inl rfl) rfl
  intro e hf
  refine aI bP XM (by simp [BI]) fun hw _=>?_
  clear hw
  have zd:=qD
  have hix:=LH hl
  repeat' with_reducible first|refine aQ (fun h=>?_) (fun h=>?_)|refine bB (fun h=>?_) (fun h=>?_)|refine aF (fun h=>?_) (fun h=>?_)|refine aH (fun h=>?_) (fun h=>?_)|refine FN ?_ ?_ ?_ ?_ rfl ?_|refine aR ?_ ?_|refine bC ?_ ?_|refine bM ?_ ?_|refine I2 bP uF nA ?_ ?_ ?_ ?_ ?_|refine IA ?_ ?_ ?_|refine L1 ?_ ?_|refine L2 ?_ ?_|refine L3 ?_ ?_ ?_ ?_|refine L4 ?_ ?_|refine L5 ?_ ?_ ?_ ?_ ?_|refine L6 ?_ ?_ ?_ ?_ ?_|refine I3 bP uF nA ?_ ?_ ?_ ?_ ?_|refine dE ?_ ?_ ?_ ?_|refine AC.mc 8 (Kx ?_ ?_ ?_ ?_ ?_) ?_ ?_ (by simp -implicitDefEqProofs only [qA,bN,bD,bO,aJ,aP,qU,D1,D4,D5,D3,D0,D6,reduceIte,reduceCtorEq,qI,E2,E1,qM, *]; exact rfl) (by exact rfl) ?_ ?_ ?_ ?_ ?_|simp -implicitDefEqProofs only [BI,qA,bN,bD,bO,aJ,aP,qU,D1,D4,D5,D3,D0,D6,reduceIte,reduceCtorEq,qI,E2,E1,Dh,cL,E0,bH,dW,mO,eN,dI,dJ,bS,cJ,cY,LS,Int.reduceSub,Int.reduceNeg,F1,J2,Int.reduceGE, *]
  all_goals first
    | refine oN 9 (fun s:Nat×List Due=>some (.iface 168 (.ptr 2 0 0)) :: nl 1 (some (.int .i64 N) :: some (.int .i64 ((s.1:Int) - 1)) :: nl 13 [])) (fun s=>[(2,.rows 169 1 [[.slm 3 N]]),(3,.rows 51 2 ((s.2).map cC))]) (fun s=>s.2.length=N∧s.1≤N / 2∧HZ N s.1 s.2=HZ N (N / 2) l) (fun s=>s.1) [] [] (N / 2,l) (by omega) ?_ ?_ ?_ ?_ ?_ ?_
    | omega
    | skip
  rotate_right
  · clear hix
    rintro ⟨k,G⟩ ⟨h2,h1,h3⟩
    simp only [] at h1 h2 h3
    have hq:∀ j:Nat,((j+1:Nat):Int) - 1=(j:Int):=fun j=>by omega
    have hq2:∀ j:Nat,decide ((j:Int)≥0)=true:=fun j=>decide_eq_true (by omega)
    have hq3:∀ j:Nat,k=j+1→IntKind.wrap .i64 ((j:Int) - 1)=(j:Int) - 1:=fun j e=>bL (by omega) (by omega)
    rcases k with _ | k
    all_goals
      simp only [dL,dK,all_nil,dI,dJ]
      intros
      repeat' with_reducible first|refine aQ (fun h=>?_) (fun h=>?_)|refine bB (fun h=>?_) (fun h=>?_)|refine aF (fun h=>?_) (fun h=>?_)|refine aH (fun h=>?_) (fun h=>?_)|refine FN ?_ ?_ ?_ ?_ rfl ?_|refine aR ?_ ?_|refine bC ?_ ?_|refine bM ?_ ?_|refine I2 bP uF nA ?_ ?_ ?_ ?_ ?_|refine IA ?_ ?_ ?_|refine L1 ?_ ?_|refine L2 ?_ ?_|refine L3 ?_ ?_ ?_ ?_|refine L4 ?_ ?_|refine L5 ?_ ?_ ?_ ?_ ?_|refine L6 ?_ ?_ ?_ ?_ ?_|refine I3 bP uF nA ?_ ?_ ?_ ?_ ?_|refine dE ?_ ?_ ?_ ?_|refine AC.mc 8 (Kx ?_ ?_ ?_ ?_ ?_) ?_ ?_ (by simp -implicitDefEqProofs only [qA,bN,bD,bO,aJ,aP,qU,D1,D4,D5,D3,D0,D6,reduceIte,reduceCtorEq,qI,E2,E1,qM, *]; exact rfl) (by exact rfl) ?_ ?_ ?_ ?_ ?_|refine gV [] [] (k,(iT N G k).1) ?_ ?_ ?_ ?_ ?_ ?_|simp -implicitDefEqProofs only [BI,qA,bN,bD,bO,aJ,aP,qU,D1,D4,D5,D3,D0,D6,reduceIte,reduceCtorEq,qI,E2,E1,Dh,cL,E0,bH,dW,mO,eN,dI,dJ,bS,cJ,cY,LS,Int.reduceSub,Int.reduceNeg,F1,J2,Int.reduceGE, *]
    all_goals first
      | omega
      | exact .inl rfl
      | exact h2
      | exact hf _ _ h3.symm
      | exact ⟨by rw [pK]; exact h2,by omega,h3⟩
      | skip
  all_goals first
    | omega
    | exact ⟨hN,by omega,rfl⟩
    | (simp -implicitDefEqProofs only [qA,bN,bD,bO,aJ,aP,qU,D1,D4,D5,D3,D0,D6,reduceIte,reduceCtorEq,qI,E2,E1,qZ,dI,dJ,qD]; first | done | exact rfl | (simp; done))
    | skip

set_option maxHeartbeats 8000000
theorem LX {κ:Ef→Prop} {f:Nat→Option Blk} {g0 sz g len t:Nat} {rs:List (List AV)} {k:IntKind} {h:Int} (hm:f g=some (.rows t sz rs)) (h0:0≤h∧h≤len) (hl:len=rs.length) (hk:κ (.slm g0 h.toNat,[(g,none),(g0,some (.rows t sz (rs.take h.toNat)))],[g])):nJ (lS f g0 sz (.slm g len) none (some (.int k h))) κ:=by
  have:lS f g0 sz (.slm g len) none (some (.int k h))=some { v:=.slm g0 h.toNat,ups:=[(g,none),(g0,some (.rows t sz (rs.take h.toNat)))],rd:=[g] }:=by
    simp only [lS,hm]
    rw [if_pos ⟨trivial,h0.1,h0.2,hl⟩]
  rw [this]
  exact hk
theorem XA (n:Nat) (l:List Due):(l.map cC).take n=(l.take n).map cC:=List.map_take.symm
theorem EX {m0:AM} {n b x:Nat} (hx:8≤x) {h:List Due} {v:AV} (hv:v.pure=true):gM 8 m0 (v,inlU m0 [(2,.rows 169 1 [[.slm 8 n]]),(8,.rows 51 2 ((h).map cC))],[]) v [(2,.rows 169 1 [[.slm x n]]),(x,.rows 51 2 ((h).map cC))] b :=
  sQ [] [(x,8)] (by simp [stOk]; omega) rfl (by simp [stM,stT,nameT,lk,AV.tr,Blk.tr,trss,trs,Tb,show ¬ x<8 by omega]) (by simp) (AV.tr_pure _ _ hv)
theorem EA {r:Nat} (hr:r=3∨r=6) {l:List Due} {n N:Nat} (hN:l.length=N) (hn:n≤N) (hl:N≤1000000):sD D8 244 [.iface 168 (.ptr 2 0 0),.int .i64 0,.int .i64 n] (.bool (decide (((0:Nat):Int)<((iT n l 0).2:Int))),inlU [(2,.rows 169 1 [[.slm r N]]),(r,.rows 51 2 ((l).map cC))] [(2,.rows 169 1 [[.slm r N]]),(r,.rows 51 2 (((iT n l 0).1).map cC))],[]) (J0 [(2,.rows 169 1 [[.slm r N]]),(r,.rows 51 2 ((l).map cC))]) 8 :=
  Kx (i0:=0) hr hN (Nat.zero_le _) hn hl
def JA:AFn:=⟨15,(.seq (.reg [o1 2 (.mv (.const .ifnil))]) (.seq (.reg [o1 4 (.mv 0),o1 5 (.invoke 4 [(17,311),(168,314)] []),o1 6 (.bin .sub 5 (ci 1)),o1 3 (.mv 6)]) (.seq (.reg [o1 7 (.mv 0),o1 8 (.mv 3),o1 9 (.invoke 7 [(168,318)] [(ci 0),8])]) (.seq (.reg [o1 10 (.mv 0),o1 11 (.mv 3),o1 12 (.call 244 [10,(ci 0),11])]) (.seq (.reg [o1 13 (.mv 0),o1 14 (.invoke 13 [(168,316)] []),o1 2 (.mv 14)]) .ret))))),[(2,none)]⟩
theorem XN:xf D8 194=some JA:=by kernel_rfl
theorem Kw {r:Nat} (hr:r=3∨r=6) {l:List Due} {n:Nat} (hN:l.length=n+1) (hl:n+1≤1000000):sD D8 194 [.iface 168 (.ptr 2 0 0)] (.iface 51 (.agg (cC ((lF l).getD n default))),inlU [(2,.rows 169 1 [[.slm r (n+1)]]),(r,.rows 51 2 ((l).map cC))] [(2,.rows 169 1 [[.slm 8 n]]),(8,.rows 51 2 (((lF l).take n).map cC))],[]) (J0 [(2,.rows 169 1 [[.slm r (n+1)]]),(r,.rows 51 2 ((l).map cC))]) 8:=by
  suffices hh:∀ e,(∀ h x b,lF l=h→8≤x→gM 8 [(2,.rows 169 1 [[.slm r (n+1)]]),(r,.rows 51 2 ((l).map cC))] e (.iface 51 (.agg (cC ((h).getD n default)))) [(2,.rows 169 1 [[.slm x n]]),(x,.rows 51 2 ((h.take n).map cC))] b)→sD D8 194 [.iface 168 (.ptr 2 0 0)] e (J0 [(2,.rows 169 1 [[.slm r (n+1)]]),(r,.rows 51 2 ((l).map cC))]) 8 from hh _ fun h x b e hx=>by subst e; exact EX hx rfl
  intro e hf
  have ht:(iT n (kQ l 0 n) 0).1=lF l:=by unfold lF; rw [hN]; rfl
  have hw1:IntKind.wrap .i64 (((n+1:Nat):Int) - 1)=(n:Int):=by rw [bL (by omega) (by omega)]; omega
  have hl2:(lF l).length=n+1:=by rw [wR]; exact hN
  have hl3:(kQ l 0 n).length=n+1:=by rw [gG]; exact hN
  have hs:((l.set 0 (l.getD n default)).set n (l.getD 0 default))=kQ l 0 n:=rfl
  rcases hr with rfl | rfl
  all_goals
    refine aI bP XN (by simp [JA]) fun hw _=>?_
    clear hw
    have zd:=qD
    repeat' with_reducible first|refine aQ (fun h=>?_) (fun h=>?_)|refine bB (fun h=>?_) (fun h=>?_)|refine aF (fun h=>?_) (fun h=>?_)|refine aH (fun h=>?_) (fun h=>?_)|refine FN ?_ ?_ ?_ ?_ rfl ?_|refine aR ?_ ?_|refine bC ?_ ?_|refine bM ?_ ?_|refine I2 bP uF nA ?_ ?_ ?_ ?_ ?_|refine I2 bP Dt uI ?_ ?_ ?_ ?_ ?_|refine I2 bP UC II ?_ ?_ ?_ ?_ ?_|refine IA ?_ ?_ ?_|refine L1 ?_ ?_|refine L2 ?_ ?_|refine L3 ?_ ?_ ?_ ?_|refine L4 ?_ ?_|refine L5 ?_ ?_ ?_ ?_ ?_|refine L6 ?_ ?_ ?_ ?_ ?_|refine I3 bP uF nA ?_ ?_ ?_ ?_ ?_|refine dE ?_ ?_ ?_ ?_|refine I2 bP Dt uI ?_ ?_ ?_ ?_ ?_|refine I2 bP UC II ?_ ?_ ?_ ?_ ?_|refine IA ?_ ?_ ?_|refine AC.mc 8 (EA ?_ ?_ ?_ ?_) ?_ ?_ (by simp -implicitDefEqProofs only [qA,bN,bD,bO,aJ,aP,qU,D1,D4,D5,D3,D0,D6,reduceIte,reduceCtorEq,qI,E2,E1,qM, *]; exact rfl) (by exact rfl) ?_ ?_ ?_ ?_ ?_|refine vQ (enc:=cC) (d:=default) (by simp -implicitDefEqProofs only [m_get,D0,reduceIte,if_true,if_false]; first|done|exact rfl) ?_ ?_ ?_ ?_ (Zh _ _) ?_|refine LX (by simp -implicitDefEqProofs only [m_get,D0,reduceIte,if_true,if_false]; first|done|exact rfl) ?_ ?_ ?_|simp -implicitDefEqProofs only [JA,qA,bN,bD,bO,aJ,aP,qU,D1,D4,D5,D3,D0,D6,reduceIte,reduceCtorEq,qI,E2,E1,Dh,Ko,JC,cL,E0,bH,dW,mO,eN,dI,dJ,LS,XA, *]
  all_goals first
    | omega
    | (constructor <;> omega)
    | exact .inl rfl
    | exact .inr rfl
    | (have h9:(iT n (kQ l 0 n) 0).1.length=n+1:=by rw [ht]; exact hl2
       unfold kQ at h9; simp only [Int.toNat_zero]; omega)
    | exact hf _ _ _ ht.symm (by omega)
    | skip

set_option maxHeartbeats 8000000
def Kk:AFn:=⟨15,(.seq (.reg [o1 2 (.mv (.const .slnil))]) (.seq (.reg [o1 3 (.mv 0),o1 4 (.call 193 [3])]) (.seq (.block 0 (.loop (.seq (.seq (.reg [o1 5 (.mv 0),o1 6 (.invoke 5 [(17,311),(168,314)] []),o1 7 (.bin .gtr 6 (ci 0))]) (.cond 7 .skip (.exit 0))) (.block 1 (.reg [o1 8 (.mv 2),o1 9 (.mv 0),o1 10 (.call 194 [9]),o1 11 (.tassert 51 false 10),o1 12 (.bslice 51 2 1 [11]),o1 13 (.app 51 2 16 8 12),o1 2 (.mv 13)]))))) (.seq (.reg [o1 14 (.mv 2),o1 2 (.mv 14)]) .ret)))),[(2,none)]⟩
theorem RR:xf D8 136=some Kk:=by kernel_rfl
theorem JR {l:List Due} {N:Nat} (hN:l.length=N) (hp:1≤N) (hl:N≤1000000):sD D8 136 [.iface 168 (.ptr 2 0 0)] (.slv 2 ((Dj N (sS l)).map cC),inlU [(2,.rows 169 1 [[.slm 3 N]]),(3,.rows 51 2 ((l).map cC))] [(2,.rows 169 1 [[.slm 6 0]]),(6,.rows 51 2 [])],[]) (J0 [(2,.rows 169 1 [[.slm 3 N]]),(3,.rows 51 2 ((l).map cC))]) 5:=by
  suffices hh:∀ e,(∀ o b,Dj N (sS l)=o→gM 5 [(2,.rows 169 1 [[.slm 3 N]]),(3,.rows 51 2 ((l).map cC))] e (.slm 5 o.length) [(5,.rows 51 2 (o.map cC)),(2,.rows 169 1 [[.slm 6 0]]),(6,.rows 51 2 [])] b)→sD D8 136 [.iface 168 (.ptr 2 0 0)] e (J0 [(2,.rows 169 1 [[.slm 3 N]]),(3,.rows 51 2 ((l).map cC))]) 5 from
    hh _ fun o b e=>by subst e; exact KV [5] [(6,6)] (by simp [stOk]) (by simp [fS,J0,jG,bQ bK]) (by simp [stM,stT,nameT,lk,AV.tr,Blk.tr,trss,trs]) (by simp) (Wk.of_eq (by simp [stT,AV.tr,frzS,J0,take_mapl]))
  intro e hf
  refine aI bP RR (by simp [Kk]) fun hw _=>?_
  clear hw
  have zd:=qD
  repeat' with_reducible first|refine aQ (fun h=>?_) (fun h=>?_)|refine bB (fun h=>?_) (fun h=>?_)|refine aF (fun h=>?_) (fun h=>?_)|refine aH (fun h=>?_) (fun h=>?_)|refine FN ?_ ?_ ?_ ?_ rfl ?_|refine aR ?_ ?_|refine bC ?_ ?_|refine bM ?_ ?_|refine I2 bP uF nA ?_ ?_ ?_ ?_ ?_|refine IA ?_ ?_ ?_|refine L1 ?_ ?_|refine L2 ?_ ?_|refine L3 ?_ ?_ ?_ ?_|refine L4 ?_ ?_|refine L5 ?_ ?_ ?_ ?_ ?_|refine L6 ?_ ?_ ?_ ?_ ?_|refine I3 bP uF nA ?_ ?_ ?_ ?_ ?_|refine dE ?_ ?_ ?_ ?_|refine AC.mc 8 (Fv ?_ ?_) ?_ ?_ (by simp -implicitDefEqProofs only [qA,bN,bD,bO,aJ,aP,qU,D1,D4,D5,D3,D0,D6,reduceIte,reduceCtorEq,qI,E2,E1,qM, *]; exact rfl) (by exact rfl) ?_ ?_ ?_ ?_ ?_|refine AC.mc 8 (Kw ?_ ?_ ?_) ?_ ?_ (by simp -implicitDefEqProofs only [qA,bN,bD,bO,aJ,aP,qU,D1,D4,D5,D3,D0,D6,reduceIte,reduceCtorEq,qI,E2,E1,qM, *]; exact rfl) (by exact rfl) ?_ ?_ ?_ ?_ ?_|refine jJ (eL _ _ _ _ _ _ (by simp -implicitDefEqProofs only [m_get,D0,reduceIte,if_true,if_false]; first|done|exact rfl) ?_) ?_ ?_ ?_ ?_|refine eM (eL _ _ _ _ _ _ (by simp -implicitDefEqProofs only [m_get,D0,reduceIte,if_true,if_false]; first|done|exact rfl) ?_) (by simp -implicitDefEqProofs only [m_get,D0,reduceIte,if_true,if_false]; first|done|exact rfl) ?_ ?_ ?_ ?_|simp -implicitDefEqProofs only [Kk,qA,bN,bD,bO,aJ,aP,qU,D1,D4,D5,D3,D0,D6,reduceIte,reduceCtorEq,qI,E2,E1,Dh,cL,E0,bH,dW,mO,eN,dI,dJ,LS,bS,cJ,cY,bY,dC,J5,kC, *]
  all_goals first
    | refine oN 9 (fun s:Nat×List Due×List Due=>some (.iface 168 (.ptr 2 0 0)) :: nl 1 (some (if s.2.2=[] then .slnil else .slm 5 s.2.2.length) :: nl 12 [])) (fun s=>if s.2.2=[] then [(2,.rows 169 1 [[.slm 3 s.1]]),(3,.rows 51 2 ((s.2.1).map cC))] else [(2,.rows 169 1 [[.slm 6 s.1]]),(6,.rows 51 2 ((s.2.1).map cC)),(5,.rows 51 2 ((s.2.2).map cC))]) (fun s=>s.2.1.length=s.1∧(s.2.2=[]→s.1=N)∧s.2.2.length+s.1=N∧s.2.2 ++ Dj s.1 s.2.1=Dj N (sS l)) (fun s=>s.1) [] [] (N,sS l,[]) (by omega) ?_ ?_ ?_ ?_ ?_ ?_
    | omega
    | skip
  rotate_right
  · rintro ⟨m,G,o⟩ ⟨h1,h2,h3,h4⟩
    simp only [] at h1 h2 h3 h4
    have h2':o=[]→N≤m:=fun h=>Nat.le_of_eq (h2 h).symm
    clear h2
    simp only [dL,dK,all_nil,dI,dJ]
    intros
    have ho2:∀ x:Due,(o ++ [x]=[])=False:=fun x=>by simp
    have hd:∀ k:Nat,decide (((k+1:Nat):Int) > 0)=true:=fun k=>decide_eq_true (by omega)
    have hd0:decide (((0:Nat):Int) > 0)=false:=rfl
    rcases m with _ | m
    · have ho:¬ o=[]:=fun h=>by have:=h2' h; omega
      obtain rfl:=List.eq_nil_of_length_eq_zero h1
      have hfo:=fun b=>hf o b (by rw [← h4]; simp [Dj])
      simp only [if_neg ho]
      repeat' with_reducible first|refine aQ (fun h=>?_) (fun h=>?_)|refine bB (fun h=>?_) (fun h=>?_)|refine aF (fun h=>?_) (fun h=>?_)|refine aH (fun h=>?_) (fun h=>?_)|refine FN ?_ ?_ ?_ ?_ rfl ?_|refine aR ?_ ?_|refine bC ?_ ?_|refine bM ?_ ?_|refine I2 bP uF nA ?_ ?_ ?_ ?_ ?_|refine IA ?_ ?_ ?_|refine L1 ?_ ?_|refine L2 ?_ ?_|refine L3 ?_ ?_ ?_ ?_|refine L4 ?_ ?_|refine L5 ?_ ?_ ?_ ?_ ?_|refine L6 ?_ ?_ ?_ ?_ ?_|refine I3 bP uF nA ?_ ?_ ?_ ?_ ?_|refine dE ?_ ?_ ?_ ?_|refine AC.mc 8 (Fv ?_ ?_) ?_ ?_ (by simp -implicitDefEqProofs only [qA,bN,bD,bO,aJ,aP,qU,D1,D4,D5,D3,D0,D6,reduceIte,reduceCtorEq,qI,E2,E1,qM, *]; exact rfl) (by exact rfl) ?_ ?_ ?_ ?_ ?_|refine AC.mc 8 (Kw ?_ ?_ ?_) ?_ ?_ (by simp -implicitDefEqProofs only [qA,bN,bD,bO,aJ,aP,qU,D1,D4,D5,D3,D0,D6,reduceIte,reduceCtorEq,qI,E2,E1,qM, *]; exact rfl) (by exact rfl) ?_ ?_ ?_ ?_ ?_|refine jJ (eL _ _ _ _ _ _ (by simp -implicitDefEqProofs only [m_get,D0,reduceIte,if_true,if_false]; first|done|exact rfl) ?_) ?_ ?_ ?_ ?_|refine eM (eL _ _ _ _ _ _ (by simp -implicitDefEqProofs only [m_get,D0,reduceIte,if_true,if_false]; first|done|exact rfl) ?_) (by simp -implicitDefEqProofs only [m_get,D0,reduceIte,if_true,if_false]; first|done|exact rfl) ?_ ?_ ?_ ?_|simp -implicitDefEqProofs only [Kk,qA,bN,bD,bO,aJ,aP,qU,D1,D4,D5,D3,D0,D6,reduceIte,reduceCtorEq,qI,E2,E1,Dh,cL,E0,bH,dW,mO,eN,dI,dJ,LS,bS,cJ,cY,bY,dC,J5,kC, *]
      all_goals first
        | omega
        | exact hfo _
        | skip
    · by_cases ho:o=[]
      all_goals simp only [ho,if_true,if_false]
      repeat' with_reducible first|refine aQ (fun h=>?_) (fun h=>?_)|refine bB (fun h=>?_) (fun h=>?_)|refine aF (fun h=>?_) (fun h=>?_)|refine aH (fun h=>?_) (fun h=>?_)|refine FN ?_ ?_ ?_ ?_ rfl ?_|refine aR ?_ ?_|refine bC ?_ ?_|refine bM ?_ ?_|refine I2 bP uF nA ?_ ?_ ?_ ?_ ?_|refine IA ?_ ?_ ?_|refine L1 ?_ ?_|refine L2 ?_ ?_|refine L3 ?_ ?_ ?_ ?_|refine L4 ?_ ?_|refine L5 ?_ ?_ ?_ ?_ ?_|refine L6 ?_ ?_ ?_ ?_ ?_|refine I3 bP uF nA ?_ ?_ ?_ ?_ ?_|refine dE ?_ ?_ ?_ ?_|refine AC.mc 8 (Fv ?_ ?_) ?_ ?_ (by simp -implicitDefEqProofs only [qA,bN,bD,bO,aJ,aP,qU,D1,D4,D5,D3,D0,D6,reduceIte,reduceCtorEq,qI,E2,E1,qM, *]; exact rfl) (by exact rfl) ?_ ?_ ?_ ?_ ?_|refine AC.mc 8 (Kw ?_ ?_ ?_) ?_ ?_ (by simp -implicitDefEqProofs only [qA,bN,bD,bO,aJ,aP,qU,D1,D4,D5,D3,D0,D6,reduceIte,reduceCtorEq,qI,E2,E1,qM, *]; exact rfl) (by exact rfl) ?_ ?_ ?_ ?_ ?_|refine jJ (eL _ _ _ _ _ _ (by simp -implicitDefEqProofs only [m_get,D0,reduceIte,if_true,if_false]; first|done|exact rfl) ?_) ?_ ?_ ?_ ?_|refine eM (eL _ _ _ _ _ _ (by simp -implicitDefEqProofs only [m_get,D0,reduceIte,if_true,if_false]; first|done|exact rfl) ?_) (by simp -implicitDefEqProofs only [m_get,D0,reduceIte,if_true,if_false]; first|done|exact rfl) ?_ ?_ ?_ ?_|refine gV [] [(89,6),(137,5)] (m,(lF G).take m,o ++ [(lF G).getD m default]) ?_ ?_ ?_ ?_ ?_ ?_|simp -implicitDefEqProofs only [Kk,qA,bN,bD,bO,aJ,aP,qU,D1,D4,D5,D3,D0,D6,reduceIte,reduceCtorEq,qI,E2,E1,Dh,cL,E0,bH,dW,mO,eN,dI,dJ,LS,bS,cJ,cY,bY,dC,J5,kC, *]
      all_goals first
        | omega
        | (subst ho; exact ⟨by rw [N5,wR,h1]; omega,fun h=>h.elim,by simp at h3; omega,h4⟩)
        | exact ⟨by rw [N5,wR,h1]; omega,fun h=>h.elim,by omega,h4⟩
        | skip
  all_goals first
    | omega
    | exact ⟨by rw [yL]; exact hN,fun _=>rfl,by simp,rfl⟩
    | (simp -implicitDefEqProofs only [qA,bN,bD,bO,aJ,aP,qU,D1,D4,D5,D3,D0,D6,reduceIte,reduceCtorEq,qI,E2,E1,qZ,dI,dJ,qD]; first | done | exact rfl | (simp; done))
    | skip

set_option maxHeartbeats 8000000
theorem GZ (b l:Nat):(mU 40 b).s 37 l=.slm 37 l:=rfl
theorem MG (b:Nat) (o:Option Blk):rG 40 b (2,o)=(2,o.map fun B=>B.tr (mU 40 b)):=rfl
theorem HB (b:Nat) (o:Option Blk):rG 40 b (37,o)=(37,o.map fun B=>B.tr (mU 40 b)):=rfl
theorem EY {m0:AM} {N b x:Nat} (hx:5≤x) {h:List Due}:gM 5 m0 (.tup [],inlU m0 [(2,.rows 169 1 [[.slm 5 (N+1)]]),(5,.rows 51 2 ((h).map cC))],[]) (.tup []) [(2,.rows 169 1 [[.slm x (N+1)]]),(x,.rows 51 2 ((h).map cC))] b :=
  sQ [] [(x,5)] (by simp [stOk]; omega) rfl (by simp [stM,stT,nameT,lk,AV.tr,Blk.tr,trss,trs,Tb,show ¬ x<5 by omega]) (by simp) (AV.tr_pure _ _ rfl)
theorem WE (l:List Due) (d:Due):l.map cC ++ [cC d]=(l ++ [d]).map cC:=by simp
def JD:AFn:=⟨13,(.regT [o1 4 (.mv 0),o1 5 (.mv 0),o1 6 (.nilchk 5),o1 7 (.ld 1 false 6),o1 8 (.mv 1),o1 9 (.tassert 51 false 8),o1 10 (.bslice 51 2 1 [9]),o1 11 (.app 51 2 16 7 10),o1 12 (.nilchk 4),o2 (.st 1 12 11)] [(2,6),(3,6)]),[]⟩
theorem UD:xf D8 317=some JD:=by kernel_rfl
theorem IJ:JD.code.lf=true:=rfl
def IZ:AFn:=⟨12,(.seq (.reg [o1 4 (.mv 0),o1 5 (.mv 1),o1 6 (.invoke 4 [(168,317)] [5])]) (.reg [o1 7 (.mv 0),o1 8 (.mv 0),o1 9 (.invoke 8 [(17,311),(168,314)] []),o1 10 (.bin .sub 9 (ci 1)),o1 11 (.call 192 [7,10])])),[]⟩
theorem XK:xf D8 135=some IZ:=by kernel_rfl
theorem JQ {l:List Due} {d:Due} {N:Nat} (hN:l.length=N) (hl:N≤100000):sD D8 135 [.iface 168 (.ptr 2 0 0),.iface 51 (.agg (cC d))] (.tup [],inlU [(2,.rows 169 1 [[.slm 3 N]]),(3,.rows 51 2 ((l).map cC))] [(2,.rows 169 1 [[.slm 5 (N+1)]]),(5,.rows 51 2 ((Gr (l ++ [d]) N).map cC))],[]) (J0 [(2,.rows 169 1 [[.slm 3 N]]),(3,.rows 51 2 ((l).map cC))]) 5:=by
  suffices hh:∀ e,(∀ x b,5≤x→gM 5 [(2,.rows 169 1 [[.slm 3 N]]),(3,.rows 51 2 ((l).map cC))] e (.tup []) [(2,.rows 169 1 [[.slm x (N+1)]]),(x,.rows 51 2 ((Gr (l ++ [d]) N).map cC))] b)→sD D8 135 [.iface 168 (.ptr 2 0 0),.iface 51 (.agg (cC d))] e (J0 [(2,.rows 169 1 [[.slm 3 N]]),(3,.rows 51 2 ((l).map cC))]) 5 from hh _ fun x b hx=>EY hx
  intro e hf
  refine aI bP XK (by simp [IZ]) fun hw _=>?_
  clear hw
  have zd:=qD
  have hw1:IntKind.wrap .i64 (((N+1:Nat):Int) - 1)=(N:Int):=by rw [bL (by omega) (by omega)]; omega
  repeat' with_reducible first|refine aQ (fun h=>?_) (fun h=>?_)|refine bB (fun h=>?_) (fun h=>?_)|refine aF (fun h=>?_) (fun h=>?_)|refine aH (fun h=>?_) (fun h=>?_)|refine FN ?_ ?_ ?_ ?_ rfl ?_|refine aR ?_ ?_|refine bC ?_ ?_|refine bM ?_ ?_|refine I2 bP uF nA ?_ ?_ ?_ ?_ ?_|refine I2 bP UD IJ ?_ ?_ ?_ ?_ ?_|refine IA ?_ ?_ ?_|refine L1 ?_ ?_|refine L2 ?_ ?_|refine L3 ?_ ?_ ?_ ?_|refine L4 ?_ ?_|refine L5 ?_ ?_ ?_ ?_ ?_|refine L6 ?_ ?_ ?_ ?_ ?_|refine I3 bP uF nA ?_ ?_ ?_ ?_ ?_|refine dE ?_ ?_ ?_ ?_|refine I2 bP UD IJ ?_ ?_ ?_ ?_ ?_|refine IA ?_ ?_ ?_|refine AC.mc 40 (KC ?_ ?_ ?_) ?_ ?_ (by simp -implicitDefEqProofs only [qA,bN,bD,bO,aJ,aP,qU,D1,D4,D5,D3,D0,D6,reduceIte,reduceCtorEq,qI,E2,E1,qM, *]; exact rfl) (by exact rfl) ?_ ?_ ?_ ?_ ?_|refine eM (eL _ _ _ _ _ _ (by simp -implicitDefEqProofs only [m_get,D0,reduceIte,if_true,if_false]; first|done|exact rfl) ?_) (by simp -implicitDefEqProofs only [m_get,D0,reduceIte,if_true,if_false]; first|done|exact rfl) ?_ ?_ ?_ ?_|simp -implicitDefEqProofs only [IZ,qA,bN,bD,bO,aJ,aP,qU,D1,D4,D5,D3,D0,D6,reduceIte,reduceCtorEq,qI,E2,E1,Dh,JD,cL,E0,bH,dW,mO,eN,dI,dJ,GZ,MG,HB,kC,bY,WE,hw1, *]
  all_goals first
    | omega
    | exact hf _ _ (by omega)
    | skip

set_option maxHeartbeats 8000000
theorem DZ:sD D8 193 [.iface 168 (.ptr 2 0 0)] (.tup [],inlU [(2,.rows 169 1 [[.slm 3 0]]),(3,.rows 51 2 [])] [(2,.rows 169 1 [[.slm 3 0]]),(3,.rows 51 2 [])],[]) (J0 [(2,.rows 169 1 [[.slm 3 0]]),(3,.rows 51 2 [])]) 8:=by
  have:=Fv (l:=[]) (N:=0) rfl (by decide)
  rwa [show sS []=[] from List.length_eq_zero_iff.1 (yL [])] at this
theorem DY:sD D8 136 [.iface 168 (.ptr 2 0 0)] (.slnil,inlU [(2,.rows 169 1 [[.slm 3 0]]),(3,.rows 51 2 [])] [(2,.rows 169 1 [[.slm 3 0]]),(3,.rows 51 2 [])],[]) (J0 [(2,.rows 169 1 [[.slm 3 0]]),(3,.rows 51 2 [])]) 5:=by
  suffices hh:∀ e,(∀ b,gM 5 [(2,.rows 169 1 [[.slm 3 0]]),(3,.rows 51 2 [])] e .slnil [(2,.rows 169 1 [[.slm 3 0]]),(3,.rows 51 2 [])] b)→sD D8 136 [.iface 168 (.ptr 2 0 0)] e (J0 [(2,.rows 169 1 [[.slm 3 0]]),(3,.rows 51 2 [])]) 5 from hh _ fun b=>sQ [] [] rfl rfl (by simp [stM,stT,nameT,lk,AV.tr,Blk.tr,trss,trs]) (by simp) rfl
  intro e hf
  refine aI bP RR (by simp [Kk]) fun hw _=>?_
  clear hw
  have zd:=qD
  repeat' with_reducible first|refine aQ (fun h=>?_) (fun h=>?_)|refine bB (fun h=>?_) (fun h=>?_)|refine aF (fun h=>?_) (fun h=>?_)|refine aH (fun h=>?_) (fun h=>?_)|refine FN ?_ ?_ ?_ ?_ rfl ?_|refine aR ?_ ?_|refine bC ?_ ?_|refine bM ?_ ?_|refine I2 bP uF nA ?_ ?_ ?_ ?_ ?_|refine IA ?_ ?_ ?_|refine L1 ?_ ?_|refine L2 ?_ ?_|refine L3 ?_ ?_ ?_ ?_|refine L4 ?_ ?_|refine L5 ?_ ?_ ?_ ?_ ?_|refine L6 ?_ ?_ ?_ ?_ ?_|refine I3 bP uF nA ?_ ?_ ?_ ?_ ?_|refine dE ?_ ?_ ?_ ?_|refine AC.mc 8 (DZ ) ?_ ?_ (by simp -implicitDefEqProofs only [qA,bN,bD,bO,aJ,aP,qU,D1,D4,D5,D3,D0,D6,reduceIte,reduceCtorEq,qI,E2,E1,qM, *]; exact rfl) (by exact rfl) ?_ ?_ ?_ ?_ ?_|refine kS 1 ?_ ?_|refine D2 (Nat.le_of_ble_eq_true rfl) ?_|simp -implicitDefEqProofs only [Kk,qA,bN,bD,bO,aJ,aP,qU,D1,D4,D5,D3,D0,D6,reduceIte,reduceCtorEq,qI,E2,E1,Dh,cL,E0,bH,dW,mO,eN,LS,F1,Int.reduceGT,Int.reduceLT,Int.lt_irrefl,gt_iff_lt, *]
  all_goals first
    | omega
    | exact hf _
    | skip

end Go.Sak
