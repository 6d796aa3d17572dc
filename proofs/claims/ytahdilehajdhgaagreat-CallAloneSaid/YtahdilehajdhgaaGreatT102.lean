/- Part T102 of the proofs about the program: K200, K201. Conditions: none. -/
import Derived.Test.YtahdilehajdhgaaGreatT10
import Derived.Test.YtahdilehajdhgaaGreatT100
import Derived.Test.YtahdilehajdhgaaGreatT101
import Derived.Test.YtahdilehajdhgaaGreatT47
open And renaming intro→D2
open Bool renaming and_true→G6
open Int renaming toNat_natCast→E0
open List renaming reduceReplicate→D1
open Nat renaming reduceAdd→D4,reduceBEq→E1,reduceEqDiff→D0,reduceLT→E2,reduceLeDiff→D3,reduceMul→D6,reduceSub→D5
open Go.Proofs.Tryz renaming prog→D8
namespace Go.Sak
open Go Go.RowKit Go.Proofs
set_option linter.unusedVariables false
set_option linter.unusedSimpArgs false
set_option maxRecDepth 10000
set_option maxHeartbeats 8000000
set_option linter.defProp false
def Qm:AFn:=⟨20,(.seq (.reg [o1 6 (.mv (.const (.bool false)))]) (.seq (.regT [o1 7 (.mv 0),o1 8 (.nilchk 7),o1 9 (.ld 1 false 8),o1 10 (.mv 1),o1 11 (.iaddr 2 9 10),o1 12 (.ld 2 true 11),o1 13 (.mv 0),o1 14 (.nilchk 13),o1 15 (.ld 1 false 14),o1 16 (.mv 2),o1 17 (.iaddr 2 15 16),o1 18 (.ld 2 true 17),o1 19 (.call 134 [12,18]),o1 6 (.mv 19)] [(1,7),(2,7),(4,7),(5,7),(1,8),(2,8),(4,8),(5,8),(1,10),(2,10),(4,10),(5,10),(1,11),(2,11),(4,11),(5,11)]) .ret)),[(6,none)]⟩
theorem Kf:xf D8 315=some Qm:=by kernel_rfl
theorem zJ:Qm.code.lf=true:=rfl
def Ko:AFn:=⟨28,(.regT [o1 6 (.mv 0),o1 7 (.nilchk 6),o1 8 (.ld 1 false 7),o1 9 (.mv 1),o1 10 (.mv 0),o1 11 (.nilchk 10),o1 12 (.ld 1 false 11),o1 13 (.mv 2),o1 14 (.mv 0),o1 15 (.nilchk 14),o1 16 (.ld 1 false 15),o1 17 (.mv 2),o1 18 (.iaddr 2 16 17),o1 19 (.ld 2 true 18),o1 20 (.mv 0),o1 21 (.nilchk 20),o1 22 (.ld 1 false 21),o1 23 (.mv 1),o1 24 (.iaddr 2 22 23),o1 25 (.ld 2 true 24),o1 26 (.iaddr 2 8 9),o2 (.st 2 26 19),o1 27 (.iaddr 2 12 13),o2 (.st 2 27 25)] [(1,5),(2,5),(1,6),(2,6),(1,9),(2,9),(5,9),(6,9),(1,10),(2,10),(5,10),(6,10),(1,12),(2,12),(5,12),(6,12),(1,13),(2,13),(5,13),(6,13),(1,15),(2,15),(5,15),(6,15),(9,15),(10,15),(12,15),(13,15),(1,16),(2,16),(5,16),(6,16),(9,16),(10,16),(12,16),(13,16),(1,18),(2,18),(5,18),(6,18),(9,18),(10,18),(12,18),(13,18),(1,19),(2,19),(5,19),(6,19),(9,19),(10,19),(12,19),(13,19)]),[]⟩
theorem Dt:xf D8 318=some Ko:=by kernel_rfl
theorem uI:Ko.code.lf=true:=rfl
def Dh:AFn:=⟨7,(.seq (.reg [o1 2 (.mv (ci 0))]) (.seq (.reg [o1 3 (.mv 0),o1 4 (.nilchk 3),o1 5 (.ld 1 false 4),o1 6 (.len 5),o1 2 (.mv 6)]) .ret)),[(2,none)]⟩
theorem uF:xf D8 314=some Dh:=by kernel_rfl
theorem nA:Dh.code.lf=true:=rfl
def JC:AFn:=⟨25,(.seq (.reg [o1 2 (.mv (.const .ifnil))]) (.seq (.reg [o1 5 (.mv 0),o1 6 (.nilchk 5),o1 7 (.ld 1 false 6),o1 8 (.len 7),o1 9 (.bin .sub 8 (ci 1)),o1 3 (.mv 9)]) (.seq (.reg [o1 10 (.mv 0),o1 11 (.nilchk 10),o1 12 (.ld 1 false 11),o1 13 (.mv 3),o1 14 (.iaddr 2 12 13),o1 15 (.ld 2 true 14),o1 4 (.alloc 51 [(.int .i64 0),(.int .i64 0)]),o2 (.st 2 4 15)]) (.seq (.reg [o1 16 (.mv 0),o1 17 (.mv 0),o1 18 (.nilchk 17),o1 19 (.ld 1 false 18),o1 20 (.mv 3),o1 21 (.slc 2 19 none (some 20)),o1 22 (.nilchk 16),o2 (.st 1 22 21)]) (.seq (.reg [o1 23 (.ld 2 true 4),o1 24 (.mkif 51 23),o1 2 (.mv 24)]) .ret))))),[(2,none)]⟩
theorem UC:xf D8 316=some JC:=by kernel_rfl
theorem II:JC.code.lf=true:=rfl
def IY:AFn:=⟨24,(.seq (.reg [o1 2 (.box 51 0),o1 3 (.box 51 1),o1 4 (.mv (.const (.bool false)))]) (.seq (.reg [o1 5 (.faddr 0 2),o1 6 (.ld 1 false 5),o1 7 (.faddr 0 3),o1 8 (.ld 1 false 7),o1 9 (.bin .lss 6 8),o1 10 (.mv 9),o4 11 (.faddr 0 2) 10,o4 12 (.ld 1 false 11) 10,o4 13 (.faddr 0 3) 10,o4 14 (.ld 1 false 13) 10,o4 15 (.bin .eql 12 14) 10,o4 16 (.mv 15) 10,o3 17 (.faddr 1 2) 16,o3 18 (.ld 1 false 17) 16,o3 19 (.faddr 1 3) 16,o3 20 (.ld 1 false 19) 16,o3 21 (.bin .lss 18 20) 16,o4 22 (.pick 16 21 (.const (.bool false))) 10,o1 23 (.pick 10 (.const (.bool true)) 22),o1 4 (.mv 23)]) .ret)),[(4,none)]⟩
theorem XJ:xf D8 134=some IY:=by kernel_rfl
theorem Fu {NQ NP:Int} {NV NT:Int}  : cX D8 134 [.agg [.int .i64 NQ,.int .i64 NP],.agg [.int .i64 NV,.int .i64 NT]] ((.bool (gA (Due.mk NQ NP) (Due.mk NV NT))),[],[]):=by
  refine aI bP XJ (by simp [IY]) fun hw _=>?_
  simp only [iR,AV.wf,aY] at hw
  repeat' with_reducible first|refine aQ (fun h=>?_) (fun h=>?_)|refine bB (fun h=>?_) (fun h=>?_)|refine aF (fun h=>?_) (fun h=>?_)|refine aH (fun h=>?_) (fun h=>?_)|refine bJ ?_ ?_ ?_ ?_|refine aR ?_ ?_|refine bC ?_ ?_|refine bM ?_ ?_|simp -implicitDefEqProofs only [IY,qA,cS,cW,aJ,aP,qU,D1,D4,D5,D3,D0,D6,reduceIte,reduceCtorEq, *]
  all_goals first
    | (simp; done)
    | exact bE
    | exact bE.symm
    | grind [aY,bL,bI,gA]

theorem pZ {a b:Due}:cX D8 134 [.agg (cC a),.agg (cC b)] (.bool (gA a b),[],[]):=Fu
theorem Zh (a b:Due):aJ (cC a) 0 (AV.cells (.agg (cC b)))=cC b:=rfl
theorem WO (a:Due):(cC a).length=2:=rfl
theorem WZ (a:Due):(cC a).take 2=cC a:=rfl
theorem WF (a:Due):(cC a).drop 2=[]:=rfl
theorem WD (a:Due):(cC a).all AV.one=true:=rfl
theorem WS (L:List Nat) (l:List Due):oM L (l.map cC)=true:=gH bK L l
theorem WR (l:List Due):sY (l.map cC)=[]:=pN bK l
theorem Tb (T:Tr) (l:List Due):trss T (l.map cC)=l.map cC:=eB T bK l
theorem WP (L:List Nat) (a:Due):jX L (cC a)=true:=rfl
theorem WQ (a:Due):jL (cC a)=[]:=rfl
theorem WW (T:Tr) (a:Due):trs T (cC a)=cC a:=rfl
theorem lN (l:List Due):puress (l.map cC)=true:=bQ bK l
def qD:=D2 (D2 (D2 (@WO) (D2 (@WZ) (@WF))) (D2 (@WD) (D2 (@WS) (@WR)))) (D2 (D2 (@Tb) (D2 (@WP) (@WQ))) (D2 (D2 (@WW) (@lN)) (D2 (@bK) (@List.length_set.{0}))))
theorem KU {m0:AM} {N b:Nat} {h:List Due} {v:AV} (hv:v.pure=true):gM 40 m0 (v,inlU m0 [(2,.rows 169 1 [[.slm 37 N]]),(37,.rows 51 2 ((h).map cC))],[]) v [(2,.rows 169 1 [[.slm 37 N]]),(37,.rows 51 2 ((h).map cC))] b :=
  sQ [] [] rfl rfl (by simp [stM,stT,nameT,lk,AV.tr,Blk.tr,trss,trs,Tb]) (by simp) (AV.tr_pure _ _ hv)
theorem QY {i:Nat} (h:i≤1000000):IntKind.wrap .i64 ((IntKind.wrap .i64 ((i:Int) - 1)).tdiv 2)=(((i - 1) / 2:Nat):Int):=by
  cases i with
  | zero=>decide
  | succ i =>
    have e:((i+1:Nat):Int) - 1=(i:Int):=by omega
    have e2:(i+1 - 1) / 2=i / 2:=by omega
    have e3:IntKind.wrap .i64 (i:Int)=i:=bL (by omega) (by omega)
    rw [e,e2,e3,Int.tdiv_eq_ediv_of_nonneg (by omega),bL (by omega) (by omega)]
    omega
theorem OU {l:List Due} {j:Nat} (h:¬ (j - 1) / 2=j) (k:gA (l.getD j default) (l.getD ((j - 1) / 2) default)=true):Gr (kQ l ((j - 1) / 2) j) ((j - 1) / 2)=Gr l j:=by
  conv=>rhs; rw [Gr]
  rw [dif_pos ⟨h,k⟩]
theorem OT {l:List Due} {j:Nat} (h:(j - 1) / 2=j∨gA (l.getD j default) (l.getD ((j - 1) / 2) default)=false):Gr l j=l:=by
  rw [Gr,dif_neg]
  rintro ⟨h1,h2⟩
  rcases h with h | h
  · exact h1 h
  · rw [h2] at h; cases h
def BH:AFn:=⟨23,(.block 0 (.loop (.block 1 (.seq (.reg [o1 5 (.mv 1),o1 6 (.bin .sub 5 (ci 1)),o1 7 (.bin .quo 6 (ci 2)),o1 4 (.mv 7)]) (.seq (.seq (.reg [o1 8 (.mv 4),o1 9 (.mv 1),o1 10 (.bin .eql 8 9),o1 11 (.mv 10),o4 12 (.mv 0) 11,o4 13 (.mv 1) 11,o4 14 (.mv 4) 11,o4 15 (.invoke 12 [(168,315)] [13,14]) 11,o4 16 (.not 15) 11,o1 17 (.pick 11 (.const (.bool true)) 16)]) (.cond 17 (.exit 0) .skip)) (.seq (.reg [o1 18 (.mv 0),o1 19 (.mv 4),o1 20 (.mv 1),o1 21 (.invoke 18 [(168,318)] [19,20])]) (.reg [o1 22 (.mv 4),o1 1 (.mv 22)]))))))),[]⟩
theorem XL:xf D8 192=some BH:=by kernel_rfl
theorem KC {l:List Due} {j N:Nat} (hN:l.length=N) (hj:j<N) (hl:N≤1000000):sD D8 192 [.iface 168 (.ptr 2 0 0),.int .i64 j] (.tup [],inlU [(2,.rows 169 1 [[.slm 37 N]]),(37,.rows 51 2 ((l).map cC))] [(2,.rows 169 1 [[.slm 37 N]]),(37,.rows 51 2 ((Gr l j).map cC))],[]) (AM.get [(2,.rows 169 1 [[.slm 37 N]]),(37,.rows 51 2 ((l).map cC))]) 40:=by
  suffices hh:∀ e,(∀ h b,Gr l j=h→gM 40 [(2,.rows 169 1 [[.slm 37 N]]),(37,.rows 51 2 ((l).map cC))] e (.tup []) [(2,.rows 169 1 [[.slm 37 N]]),(37,.rows 51 2 ((h).map cC))] b)→sD D8 192 [.iface 168 (.ptr 2 0 0),.int .i64 j] e (AM.get [(2,.rows 169 1 [[.slm 37 N]]),(37,.rows 51 2 ((l).map cC))]) 40 from hh _ fun h b e=>by subst e; exact KU rfl
  intro e hf
  refine aI bP XL (by simp [BH]) fun hw _=>?_
  clear hw
  have zd:=qD
  repeat' with_reducible first|refine aQ (fun h=>?_) (fun h=>?_)|refine bB (fun h=>?_) (fun h=>?_)|refine aF (fun h=>?_) (fun h=>?_)|refine aH (fun h=>?_) (fun h=>?_)|refine FN ?_ ?_ ?_ ?_ rfl ?_|refine aR ?_ ?_|refine bC ?_ ?_|refine bM ?_ ?_|refine I2 bP Kf zJ ?_ ?_ ?_ ?_ ?_|refine I2 bP Dt uI ?_ ?_ ?_ ?_ ?_|refine IA ?_ ?_ ?_|refine L1 ?_ ?_|refine L2 ?_ ?_|refine L3 ?_ ?_ ?_ ?_|refine L4 ?_ ?_|refine L5 ?_ ?_ ?_ ?_ ?_|refine L6 ?_ ?_ ?_ ?_ ?_|refine I3 bP Kf zJ ?_ ?_ ?_ ?_ ?_|refine dE ?_ ?_ ?_ ?_|refine I2 bP Dt uI ?_ ?_ ?_ ?_ ?_|refine IA ?_ ?_ ?_|refine AC.p0 pZ ?_ (by simp -implicitDefEqProofs only [pures,AV.pure,bK,G6]; done) ?_ ?_|refine vQ (enc:=cC) (d:=default) (by simp -implicitDefEqProofs only [m_get,D0,reduceIte,if_true,if_false]; first|done|exact rfl) ?_ ?_ ?_ ?_ (Zh _ _) ?_|simp -implicitDefEqProofs only [BH,qA,bN,bD,bO,aJ,aP,qU,D1,D4,D5,D3,D0,D6,reduceIte,reduceCtorEq,qI,E2,E1,Qm,Ko,cL,E0,bH,dW,mO,eN,dI,dJ,bS,cJ,cY, *]
  all_goals first
    | refine oN 41 (fun s:Nat×List Due=>some (.iface 168 (.ptr 2 0 0)) :: some (.int .i64 s.1) :: nl 21 []) (fun s=>[(2,.rows 169 1 [[.slm 37 N]]),(37,.rows 51 2 ((s.2).map cC))]) (fun s=>s.1<N∧s.2.length=N∧Gr s.2 s.1=Gr l j) (fun s=>s.1) [] [] (j,l) (by omega) ?_ ?_ ?_ ?_ ?_ ?_
    | skip
  rotate_right
  · rintro ⟨i,G⟩ ⟨h1,h2,h3⟩
    simp only [] at h1 h2 h3
    simp only [dL,dK,all_nil,dI,dJ]
    have hq:=QY (i:=i) (by omega)
    have hy:=fun a b=>OU (l:=G) (j:=i) a b
    have hn:=fun a=>OT (l:=G) (j:=i) a
    have hq2:(i - 1) / 2<N:=by omega
    have hq3:¬ (i - 1) / 2=i→(i - 1) / 2<i:=fun _=>by omega
    generalize (i - 1) / 2=q at hq hy hn hq2 hq3
    intros
    repeat' with_reducible first|refine aQ (fun h=>?_) (fun h=>?_)|refine bB (fun h=>?_) (fun h=>?_)|refine aF (fun h=>?_) (fun h=>?_)|refine aH (fun h=>?_) (fun h=>?_)|refine FN ?_ ?_ ?_ ?_ rfl ?_|refine aR ?_ ?_|refine bC ?_ ?_|refine bM ?_ ?_|refine I2 bP Kf zJ ?_ ?_ ?_ ?_ ?_|refine I2 bP Dt uI ?_ ?_ ?_ ?_ ?_|refine IA ?_ ?_ ?_|refine L1 ?_ ?_|refine L2 ?_ ?_|refine L3 ?_ ?_ ?_ ?_|refine L4 ?_ ?_|refine L5 ?_ ?_ ?_ ?_ ?_|refine L6 ?_ ?_ ?_ ?_ ?_|refine I3 bP Kf zJ ?_ ?_ ?_ ?_ ?_|refine dE ?_ ?_ ?_ ?_|refine I2 bP Dt uI ?_ ?_ ?_ ?_ ?_|refine IA ?_ ?_ ?_|refine AC.p0 pZ ?_ (by simp -implicitDefEqProofs only [pures,AV.pure,bK,G6]; done) ?_ ?_|refine vQ (enc:=cC) (d:=default) (by simp -implicitDefEqProofs only [m_get,D0,reduceIte,if_true,if_false]; first|done|exact rfl) ?_ ?_ ?_ ?_ (Zh _ _) ?_|refine gV [] [] (q,kQ G q i) ?_ ?_ ?_ ?_ ?_ ?_|simp -implicitDefEqProofs only [BH,qA,bN,bD,bO,aJ,aP,qU,D1,D4,D5,D3,D0,D6,reduceIte,reduceCtorEq,qI,E2,E1,Qm,Ko,cL,E0,bH,dW,mO,eN,dI,dJ,bS,cJ,cY, *]
    all_goals first
      | omega
      | (constructor <;> omega)
      | exact hf _ _ (h3.symm.trans (hn (.inl (by have:=of_decide_eq_true (by assumption); omega))))
      | exact hf _ _ (h3.symm.trans (hn (.inr (by assumption))))
      | exact ⟨by rw [gG]; exact h2,(hy (of_decide_eq_false (by assumption:decide ((q:Int)=(i:Int))=false) |> fun e=>by omega) (by assumption)).trans h3⟩
      | exact hq3 (by have:=of_decide_eq_false (by assumption:decide ((q:Int)=(i:Int))=false); omega)
      | skip
  all_goals first
    | omega
    | exact ⟨hj,hN,rfl⟩
    | (simp -implicitDefEqProofs only [qA,bN,bD,bO,aJ,aP,qU,D1,D4,D5,D3,D0,D6,reduceIte,reduceCtorEq,qI,E2,E1,qZ,dI,dJ,qD]; first | done | (simp; done))
    | skip

set_option maxHeartbeats 8000000
theorem Wv {r:Nat} (hr:r=3∨r=6) {m0:AM} {N b:Nat} {h:List Due} {v:AV} (hv:v.pure=true):gM 8 m0 (v,inlU m0 [(2,.rows 169 1 [[.slm r N]]),(r,.rows 51 2 ((h).map cC))],[]) v [(2,.rows 169 1 [[.slm r N]]),(r,.rows 51 2 ((h).map cC))] b:=by
  rcases hr with rfl | rfl <;> exact sQ [] [] rfl rfl (by simp [stM,stT,nameT,lk,AV.tr,Blk.tr,trss,trs,Tb]) (by simp) (AV.tr_pure _ _ hv)
theorem KS {n i:Nat} {l:List Due} (h:2 * i+1<n) (k:gA (l.getD (qS n l i) default) (l.getD i default)=true):iT n (kQ l i (qS n l i)) (qS n l i)=iT n l i:=by
  conv=>rhs; rw [iT]
  rw [dif_pos h,if_pos k]
theorem EM {n i:Nat} {l:List Due} (h:n≤2 * i+1∨gA (l.getD (qS n l i) default) (l.getD i default)=false):iT n l i=(l,i):=by
  rw [iT]
  split
  · rename_i h1
    rcases h with h | h
    · omega
    · rw [if_neg (by rw [h]; decide)]
  · rfl
theorem OX {n i:Nat} {l:List Due} (h:2 * i+2<n) (k:gA (l.getD (2 * i+2) default) (l.getD (2 * i+1) default)=true):qS n l i=2 * i+2:=if_pos ⟨h,k⟩
theorem FM {n i:Nat} {l:List Due} (h:n≤2 * i+2∨gA (l.getD (2 * i+2) default) (l.getD (2 * i+1) default)=false):qS n l i=2 * i+1:=by
  refine if_neg ?_
  rintro ⟨h1,h2⟩
  rcases h with h | h
  · omega
  · rw [h2] at h; cases h
theorem ON {i:Nat} (h:i≤1000000):IntKind.wrap .i64 (IntKind.wrap .i64 (2 * (i:Int))+1)=((2 * i+1:Nat):Int):=by
  rw [show IntKind.wrap .i64 (2 * (i:Int))=2 * (i:Int) from bL (by omega) (by omega),bL (by omega) (by omega)]; omega
theorem KR {i:Nat} (h:i≤1000000):IntKind.wrap .i64 (((2 * i+1:Nat):Int)+1)=((2 * i+2:Nat):Int):=by
  rw [bL (by omega) (by omega)]; omega
def CB:AFn:=⟨48,(.seq (.reg [o1 6 (.mv (.const (.bool false)))]) (.seq (.reg [o1 11 (.mv 1),o1 7 (.mv 11)]) (.seq (.block 0 (.loop (.block 1 (.seq (.reg [o1 12 (.mv 7),o1 13 (.bin .mul (ci 2) 12),o1 14 (.bin .add 13 (ci 1)),o1 8 (.mv 14)]) (.seq (.seq (.reg [o1 15 (.mv 8),o1 16 (.mv 2),o1 17 (.bin .geq 15 16),o1 18 (.mv 17),o4 19 (.mv 8) 18,o4 20 (.bin .lss 19 (ci 0)) 18,o1 21 (.pick 18 (.const (.bool true)) 20)]) (.cond 21 (.exit 0) .skip)) (.seq (.reg [o1 22 (.mv 8),o1 9 (.mv 22)]) (.seq (.seq (.reg [o1 23 (.mv 8),o1 24 (.bin .add 23 (ci 1)),o1 10 (.mv 24)]) (.seq (.reg [o1 25 (.mv 10),o1 26 (.mv 2),o1 27 (.bin .lss 25 26),o1 28 (.mv 27),o3 29 (.mv 0) 28,o3 30 (.mv 10) 28,o3 31 (.mv 8) 28,o3 32 (.invoke 29 [(168,315)] [30,31]) 28,o1 33 (.pick 28 32 (.const (.bool false)))]) (.cond 33 (.reg [o1 34 (.mv 10),o1 9 (.mv 34)]) .skip))) (.seq (.seq (.reg [o1 35 (.mv 0),o1 36 (.mv 9),o1 37 (.mv 7),o1 38 (.invoke 35 [(168,315)] [36,37]),o1 39 (.not 38)]) (.cond 39 (.exit 0) .skip)) (.seq (.reg [o1 40 (.mv 0),o1 41 (.mv 7),o1 42 (.mv 9),o1 43 (.invoke 40 [(168,318)] [41,42])]) (.reg [o1 44 (.mv 9),o1 7 (.mv 44)])))))))))) (.seq (.reg [o1 45 (.mv 7),o1 46 (.mv 1),o1 47 (.bin .gtr 45 46),o1 6 (.mv 47)]) .ret)))),[(6,none)]⟩
theorem XO:xf D8 244=some CB:=by kernel_rfl
theorem Kx {r : Nat} (hr:r=3∨r=6) {l:List Due} {i0 n N:Nat} (hN:l.length=N) (hi:i0≤n) (hn:n≤N) (hl:N≤1000000):sD D8 244 [.iface 168 (.ptr 2 0 0),.int .i64 i0,.int .i64 n] (.bool (decide ((i0:Int)<((iT n l i0).2:Int))),inlU [(2,.rows 169 1 [[.slm r N]]),(r,.rows 51 2 ((l).map cC))] [(2,.rows 169 1 [[.slm r N]]),(r,.rows 51 2 (((iT n l i0).1).map cC))],[]) (AM.get [(2,.rows 169 1 [[.slm r N]]),(r,.rows 51 2 ((l).map cC))]) 8:=by
  suffices hh:∀ e,(∀ h b,iT n l i0=h→gM 8 [(2,.rows 169 1 [[.slm r N]]),(r,.rows 51 2 ((l).map cC))] e (.bool (decide ((i0:Int)<((h).2:Int)))) [(2,.rows 169 1 [[.slm r N]]),(r,.rows 51 2 ((h.1).map cC))] b)→sD D8 244 [.iface 168 (.ptr 2 0 0),.int .i64 i0,.int .i64 n] e (AM.get [(2,.rows 169 1 [[.slm r N]]),(r,.rows 51 2 ((l).map cC))]) 8 from hh _ fun h b e=>by subst e; exact Wv hr rfl
  intro e hf
  obtain ⟨mm,hmm⟩:∃ mm:List Due→AM,∀ l,mm l=[(2,.rows 169 1 [[.slm r N]]),(r,.rows 51 2 ((l).map cC))]:=⟨_,fun _=>rfl⟩
  rcases hr with rfl | rfl
  all_goals
    refine aI bP XO (by simp [CB]) fun hw _=>?_
    clear hw
    have zd:=qD
    repeat' with_reducible first|refine aQ (fun h=>?_) (fun h=>?_)|refine bB (fun h=>?_) (fun h=>?_)|refine aF (fun h=>?_) (fun h=>?_)|refine aH (fun h=>?_) (fun h=>?_)|refine FN ?_ ?_ ?_ ?_ rfl ?_|refine aR ?_ ?_|refine bC ?_ ?_|refine bM ?_ ?_|refine I2 bP Kf zJ ?_ ?_ ?_ ?_ ?_|refine I2 bP Dt uI ?_ ?_ ?_ ?_ ?_|refine IA ?_ ?_ ?_|refine L1 ?_ ?_|refine L2 ?_ ?_|refine L3 ?_ ?_ ?_ ?_|refine L4 ?_ ?_|refine L5 ?_ ?_ ?_ ?_ ?_|refine L6 ?_ ?_ ?_ ?_ ?_|refine I3 bP Kf zJ ?_ ?_ ?_ ?_ ?_|refine dE ?_ ?_ ?_ ?_|refine I2 bP Dt uI ?_ ?_ ?_ ?_ ?_|refine IA ?_ ?_ ?_|refine AC.p0 pZ ?_ (by simp -implicitDefEqProofs only [pures,AV.pure,bK,G6]; done) ?_ ?_|refine vQ (enc:=cC) (d:=default) (by simp -implicitDefEqProofs only [m_get,D0,reduceIte,if_true,if_false]; first|done|exact rfl) ?_ ?_ ?_ ?_ (Zh _ _) ?_|simp -implicitDefEqProofs only [CB,qA,bN,bD,bO,aJ,aP,qU,D1,D4,D5,D3,D0,D6,reduceIte,reduceCtorEq,qI,E2,E1,Qm,Ko,cL,E0,bH,dW,mO,eN,dI,dJ,bS,cJ,cY, *]
    all_goals first
      | refine oN 9 (fun s:Nat×List Due=>some (.iface 168 (.ptr 2 0 0)) :: some (.int .i64 i0) :: some (.int .i64 n) :: nl 3 (some (.bool false) :: some (.int .i64 s.1) :: nl 40 [])) (fun s=>mm s.2) (fun s=>s.2.length=N∧s.1≤n∧iT n s.2 s.1=iT n l i0) (fun s=>n - s.1) [] [] (i0,l) (by omega) ?_ ?_ ?_ ?_ ?_ ?_
      | skip
    rotate_right
    · rintro ⟨i,G⟩ ⟨h2,h1,h3⟩
      simp only [] at h1 h2 h3
      simp only [dL,dK,all_nil,dI,dJ]
      have hq:=ON (i:=i) (by omega)
      have hq2:=KR (i:=i) (by omega)
      have hz:¬ (((2 * i+1:Nat):Int)<0):=by omega
      intros
      repeat' with_reducible first|refine aQ (fun h=>?_) (fun h=>?_)|refine bB (fun h=>?_) (fun h=>?_)|refine aF (fun h=>?_) (fun h=>?_)|refine aH (fun h=>?_) (fun h=>?_)|refine FN ?_ ?_ ?_ ?_ rfl ?_|refine aR ?_ ?_|refine bC ?_ ?_|refine bM ?_ ?_|refine I2 bP Kf zJ ?_ ?_ ?_ ?_ ?_|refine I2 bP Dt uI ?_ ?_ ?_ ?_ ?_|refine IA ?_ ?_ ?_|refine L1 ?_ ?_|refine L2 ?_ ?_|refine L3 ?_ ?_ ?_ ?_|refine L4 ?_ ?_|refine L5 ?_ ?_ ?_ ?_ ?_|refine L6 ?_ ?_ ?_ ?_ ?_|refine I3 bP Kf zJ ?_ ?_ ?_ ?_ ?_|refine dE ?_ ?_ ?_ ?_|refine I2 bP Dt uI ?_ ?_ ?_ ?_ ?_|refine IA ?_ ?_ ?_|refine AC.p0 pZ ?_ (by simp -implicitDefEqProofs only [pures,AV.pure,bK,G6]; done) ?_ ?_|refine vQ (enc:=cC) (d:=default) (by simp -implicitDefEqProofs only [m_get,D0,reduceIte,if_true,if_false]; first|done|exact rfl) ?_ ?_ ?_ ?_ (Zh _ _) ?_|simp -implicitDefEqProofs only [CB,qA,bN,bD,bO,aJ,aP,qU,D1,D4,D5,D3,D0,D6,reduceIte,reduceCtorEq,qI,E2,E1,Qm,Ko,cL,E0,bH,dW,mO,eN,dI,dJ,bS,cJ,cY, *]
      all_goals first
        | (simp only [decide_eq_true_eq,decide_eq_false_iff_not] at *; clear zd; first | omega | (constructor <;> omega))
        | exact hf _ _ (h3.symm.trans (EM (.inl (by simp only [decide_eq_true_eq,decide_eq_false_iff_not] at *; omega))))
        | exact hf _ _ (h3.symm.trans (EM (.inr (by rw [OX (by simp only [decide_eq_true_eq,decide_eq_false_iff_not] at *; omega) (by assumption)]; assumption))))
        | exact hf _ _ (h3.symm.trans (EM (.inr (by rw [FM (.inr (by assumption))]; assumption))))
        | exact hf _ _ (h3.symm.trans (EM (.inr (by rw [FM (.inl (by simp only [decide_eq_true_eq,decide_eq_false_iff_not] at *; omega))]; assumption))))
        | (have hk:=OX (l:=G) (i:=i) (n:=n) (by simp only [decide_eq_true_eq,decide_eq_false_iff_not] at *; clear zd; omega) (by assumption)
           have hz2:=KS (l:=G) (i:=i) (n:=n) (by simp only [decide_eq_true_eq,decide_eq_false_iff_not] at *; clear zd; omega) (by rw [hk]; assumption)
           rw [hk] at hz2
           refine gV [] [] (2 * i+2,kQ G i (2 * i+2)) ?_ ?_ ?_ ?_ ?_ ?_
           all_goals first
             | (simp only []; simp only [decide_eq_true_eq,decide_eq_false_iff_not] at *; clear zd; omega)
             | exact ⟨by rw [gG]; exact h2,by simp only [decide_eq_true_eq,decide_eq_false_iff_not] at *; clear zd; omega,hz2.trans h3⟩
             | (simp -implicitDefEqProofs only [qA,bN,bD,bO,aJ,aP,qU,D1,D4,D5,D3,D0,D6,reduceIte,reduceCtorEq,qI,E2,E1,qZ,dI,dJ,qD,hmm]; first | done | exact rfl | (simp; done)))
        | (have hk:=FM (l:=G) (i:=i) (n:=n) (.inr (by assumption))
           have hz2:=KS (l:=G) (i:=i) (n:=n) (by simp only [decide_eq_true_eq,decide_eq_false_iff_not] at *; clear zd; omega) (by rw [hk]; assumption)
           rw [hk] at hz2
           refine gV [] [] (2 * i+1,kQ G i (2 * i+1)) ?_ ?_ ?_ ?_ ?_ ?_
           all_goals first
             | (simp only []; simp only [decide_eq_true_eq,decide_eq_false_iff_not] at *; clear zd; omega)
             | exact ⟨by rw [gG]; exact h2,by simp only [decide_eq_true_eq,decide_eq_false_iff_not] at *; clear zd; omega,hz2.trans h3⟩
             | (simp -implicitDefEqProofs only [qA,bN,bD,bO,aJ,aP,qU,D1,D4,D5,D3,D0,D6,reduceIte,reduceCtorEq,qI,E2,E1,qZ,dI,dJ,qD,hmm]; first | done | exact rfl | (simp; done)))
        | (have hk:=FM (l:=G) (i:=i) (n:=n) (.inl (by simp only [decide_eq_true_eq,decide_eq_false_iff_not] at *; clear zd; omega))
           have hz2:=KS (l:=G) (i:=i) (n:=n) (by simp only [decide_eq_true_eq,decide_eq_false_iff_not] at *; clear zd; omega) (by rw [hk]; assumption)
           rw [hk] at hz2
           refine gV [] [] (2 * i+1,kQ G i (2 * i+1)) ?_ ?_ ?_ ?_ ?_ ?_
           all_goals first
             | (simp only []; simp only [decide_eq_true_eq,decide_eq_false_iff_not] at *; clear zd; omega)
             | exact ⟨by rw [gG]; exact h2,by simp only [decide_eq_true_eq,decide_eq_false_iff_not] at *; clear zd; omega,hz2.trans h3⟩
             | (simp -implicitDefEqProofs only [qA,bN,bD,bO,aJ,aP,qU,D1,D4,D5,D3,D0,D6,reduceIte,reduceCtorEq,qI,E2,E1,qZ,dI,dJ,qD,hmm]; first | done | exact rfl | (simp; done)))
        | skip
    all_goals first
      | omega
      | exact ⟨hN,hi,rfl⟩
      | (simp -implicitDefEqProofs only [qA,bN,bD,bO,aJ,aP,qU,D1,D4,D5,D3,D0,D6,reduceIte,reduceCtorEq,qI,E2,E1,qZ,dI,dJ,qD,hmm]; first | done | (simp; done))
      | skip

end Go.Sak
