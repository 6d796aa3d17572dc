/- Part U141 of the proofs about the program: K241. Conditions: none. -/
import Derived.Test.YtahdilehajdhgaaGreatU140
open Go.Sak.ACV renaming of→AY
open Bool renaming and_eq_true→Zq
open Int renaming natCast_zero→AD,reduceEq→BC,reduceNe→BU,toNat_natCast→Zy
open List renaming reduceReplicate→Zj
open Nat renaming reduceAdd→Zs,reduceBEq→AB,reduceEqDiff→Zk,reduceLT→AE,reduceLeDiff→Zo,reduceMul→Zu,reduceSub→Zt
open Go.Proofs.Tryz renaming prog→Zi
namespace Go.Sak
open Go Go.RowKit Go.Proofs
set_option linter.unusedVariables false
set_option linter.unusedSimpArgs false
set_option maxRecDepth 10000
set_option maxHeartbeats 8000000
def xU:AFn:=⟨49,(.seq (.reg [o1 3 (.box 33 0)]) (.seq (.seq (.reg [o1 10 (.ld 20 true 3),o1 11 (.mv 1),o1 12 (.call 73 [10,11]),o1 13 (.not 12)]) (.cond 13 .ret .skip)) (.seq (.reg [o1 14 (.faddr 18 3),o1 15 (.ld 1 false 14),o1 16 (.mv 1),o1 17 (.iaddr 11 15 16),o1 18 (.faddr 1 17),o1 19 (.ld 1 false 18),o1 20 (.call 75 [19]),o1 21 (.call 123 [20]),o1 6 (.alloc 150 [.fnnil]),o2 (.st 1 6 21)]) (.seq (.reg [o1 22 (.faddr 18 3),o1 23 (.ld 1 false 22),o1 24 (.len 23),o1 25 (.mv (ci 0))]) (.block 0 (.loop (.seq (.reg [o1 26 (.bin .lss 25 24)]) (.seq (.cond 26 .skip (.exit 0)) (.seq (.block 1 (.seq (.reg [o1 27 (.mv 25),o1 7 (.mv 27)]) (.seq (.reg [o1 28 (.faddr 18 3),o1 29 (.ld 1 false 28),o1 30 (.mv 7),o1 31 (.iaddr 11 29 30),o1 32 (.ld 11 true 31),o1 8 (.alloc 42 [(.int .i64 0),(.int .i64 0),(.int .i64 0),(.int .i64 0),(.int .i64 0),(.int .i64 0),(.int .i64 0),(.int .i64 0),(.bool false),(.int .i64 0),(.int .i64 0)]),o2 (.st 11 8 32)]) (.seq (.reg [o1 33 (.faddr 0 6),o1 34 (.ld 1 false 33),o1 35 (.ld 11 true 8),o1 36 (.callv 34 [35]),o1 9 (.mv 36)]) (.seq (.reg [o1 37 (.ld 11 true 8),o1 38 (.call 124 [37]),o1 39 (.bin .eql 38 (ci 0)),o1 40 (.mv 39),o3 41 (.mv 9) 40,o3 42 (.bin .gtr 41 (ci 0)) 40,o1 43 (.pick 40 42 (.const (.bool false)))]) (.cond 43 (.reg [o1 44 (.mv 2),o1 45 (.mv 7),o1 46 (.mv 9),o1 47 (.callv 44 [45,46])]) .skip)))))) (.reg [o1 48 (.bin .add 25 (ci 1)),o1 25 (.mv 48)])))))))))),[]⟩
theorem Tm:xf Zi 71=some xU:=by kernel_rfl
def Bi:AFn:=⟨9,(.reg [o1 5 (.ld 1 false 2),o1 6 (.mv 0),o1 7 (.bslice 3 1 1 [6]),o1 8 (.app 3 1 8 5 7),o2 (.st 1 2 8)]),[]⟩
theorem Jx:xf Zi 72=some Bi:=by kernel_rfl
theorem Af:Bi.code.lf=true:=rfl
def yB:AFn:=⟨5,(.seq (.reg [o1 1 (.box 3 0),o1 2 (.alloc 150 [.fnnil])]) (.seq (.reg [o1 3 (.mkfn (.func 180) [] [1]),o1 4 (.build [.fnnil] [(0,1,3)]),o2 (.st 1 2 4)]) .ret)),[(2,some (1,true))]⟩
theorem Jg:xf Zi 123=some yB:=by kernel_rfl
theorem Ih:yB.code.lf=true:=rfl
def Jz:AFn:=⟨10,(.seq (.reg [o1 2 (.box 33 0),o1 4 (.alloc 27 [.slnil])]) (.seq (.reg [o1 5 (.ld 20 true 2),o1 6 (.mv 1),o1 7 (.mkfn (.func 72) [] [4]),o1 8 (.call 71 [5,6,7])]) (.seq (.reg [o1 9 (.ld 1 false 4),o2 (.st 1 4 9)]) .ret))),[(4,some (1,false))]⟩
theorem Uy:xf Zi 33=some Jz:=by kernel_rfl
theorem lK {t:Thread} {sd:Int}:bO Zi 180 [.agg (bW t),.pv [.int .i64 sd]] (.int .i64 (At sd t),[],[]):=Bt
theorem iI {t:Thread}:bO Zi 124 [.agg (bW t)] (.int .i64 (qL t),[],[]):=Bp
theorem eA (L:List Nat):∀ a b,eK L (a ++ b)=(eK L a && eK L b)
  | [],b=>by simp [eK]
  | x :: a,b=>by simp [eK,eA L a b,Bool.and_assoc]
theorem tZ (t:Thread):(if 1≤(List.drop 1 (bW t)).length then (List.drop 1 (bW t))[0]? else none)=some (.int .i64 t.kind):=rfl
def wM (s:State) (id:Int) (l:List Int):AM:=if l=[] then [(17,.rows 27 1 [[.slnil]]),(82,.rows 33 20 [bQ s]),(84,.rows 3 1 [[.int .i64 (dD (s.threads.getD id.toNat default).kind)]]),(83,.rows 150 1 [[.fn (.func 180) [] [.ptr 84 0 0]]])] else [(82,.rows 33 20 [bQ s]),(84,.rows 3 1 [[.int .i64 (dD (s.threads.getD id.toNat default).kind)]]),(83,.rows 150 1 [[.fn (.func 180) [] [.ptr 84 0 0]]]),(17,.rows 27 1 [[.slm 85 l.length]]),(85,.rows 3 1 (l.map aW))]
theorem xO {s:State} {id:Int}:wM s id []=[(17,.rows 27 1 [[.slnil]]),(82,.rows 33 20 [bQ s]),(84,.rows 3 1 [[.int .i64 (dD (s.threads.getD id.toNat default).kind)]]),(83,.rows 150 1 [[.fn (.func 180) [] [.ptr 84 0 0]]])]:=rfl
theorem Au {s:State} {id:Int} {l:List Int} (h:¬ l=[]):wM s id l=[(82,.rows 33 20 [bQ s]),(84,.rows 3 1 [[.int .i64 (dD (s.threads.getD id.toNat default).kind)]]),(83,.rows 150 1 [[.fn (.func 180) [] [.ptr 84 0 0]]]),(17,.rows 27 1 [[.slm 85 l.length]]),(85,.rows 3 1 (l.map aW))]:=if_neg h
theorem Om {s:State} {id:Int} (x:Int):wM s id [x]=[(82,.rows 33 20 [bQ s]),(84,.rows 3 1 [[.int .i64 (dD (s.threads.getD id.toNat default).kind)]]),(83,.rows 150 1 [[.fn (.func 180) [] [.ptr 84 0 0]]]),(17,.rows 27 1 [[.slm 85 [x].length]]),(85,.rows 3 1 ([x].map aW))]:=Au (by simp)
theorem Ol {s:State} {id:Int} (l:List Int) (x:Int):wM s id (l ++ [x])=[(82,.rows 33 20 [bQ s]),(84,.rows 3 1 [[.int .i64 (dD (s.threads.getD id.toNat default).kind)]]),(83,.rows 150 1 [[.fn (.func 180) [] [.ptr 84 0 0]]]),(17,.rows 27 1 [[.slm 85 (l ++ [x]).length]]),(85,.rows 3 1 ((l ++ [x]).map aW))]:=Au (by simp)
theorem zU {s : State} {id:Int} (hb:Bd s 100000000) {M:AM} {κ:Ef→Prop}
    (hM:eN M (reachM M (bS 1 (eM [.agg (bQ s),.int .i64 id,.fn (.func 72) [] [.ptr 17 0 0]]) []))=[(17,.rows 27 1 [[.slnil]])])
    (h8:bL s id=[]→κ (.tup [],[(17,none)] ++ [(17,some (.rows 27 1 [[.slnil]]))],[17]))
    (h9:¬ bL s id=[]→κ (.tup [],[(17,none)] ++ [(17,some (.rows 27 1 [[.slm 81 (bL s id).length]])),(81,some (.rows 3 1 ((bL s id).map aW)))],[17])):AC Zi 71 [.agg (bQ s),.int .i64 id,.fn (.func 72) [] [.ptr 17 0 0]] M 81 κ:=by
  cases hp:cH s id with
  | false =>
    have hw:bL s id=[]:=if_neg (by simp [hp])
    have k:=h8 hw
    clear h8 h9
    refine AC.inlD cD Tm (by simp [xU]) (by omega) hM (by simp -implicitDefEqProofs only [qA,cK,bC,cM,aF,aL,qU,Zj,Zs,Zt,Zo,Zk,Zu,reduceIte,reduceCtorEq,qI,AE,AB,qZ]; first | done | exact rfl) (by simp -implicitDefEqProofs only [qA,cK,bC,cM,aF,aL,qU,Zj,Zs,Zt,Zo,Zk,Zu,reduceIte,reduceCtorEq,qI,AE,AB,qZ]; first | done | exact rfl) (by simp -implicitDefEqProofs only [qA,cK,bC,cM,aF,aL,qU,Zj,Zs,Zt,Zo,Zk,Zu,reduceIte,reduceCtorEq,qI,AE,AB,qZ]; first | done | exact rfl) ⟨[],[(17,.rows 27 1 [[.slnil]]),(81,.rows 33 20 [bQ s])],161,?_,fun e he=>?_⟩
    · refine ⟨[],[],?_,?_,?_,?_⟩
      all_goals simp -implicitDefEqProofs only [qA,cK,bC,cM,aF,aL,qU,Zj,Zs,Zt,Zo,Zk,Zu,reduceIte,reduceCtorEq,qI,AE,AB,qZ]
      all_goals first
        | done
        | exact k
        | skip
    · clear k hM
      repeat' with_reducible first|refine aO (fun h=>?_) (fun h=>?_)|refine aT (fun h=>?_) (fun h=>?_)|refine aC (fun h=>?_) (fun h=>?_)|refine aH (fun h=>?_) (fun h=>?_)|refine FN ?_ ?_ ?_ ?_ rfl ?_|refine aP ?_ ?_|refine aU ?_ ?_|refine bE ?_ ?_|refine IA ?_ ?_ ?_|refine L1 ?_ ?_|refine L2 ?_ ?_|refine L3 ?_ ?_ ?_ ?_|refine L4 ?_ ?_|refine L5 ?_ ?_ ?_ ?_ ?_|refine L6 ?_ ?_ ?_ ?_ ?_|refine AC.p0 (gC ?_) ?_ (by simp -implicitDefEqProofs only [qU,pure_encZ]; done) ?_ ?_|refine P0 iI ?_ ?_ ?_|refine dR (d:=default) ?_ ?_|refine P0 (cJ) ?_ ?_ ?_|refine AY (cJ) ?_ ?_ ?_|refine ACK.of (cJ) ?_ ?_|simp -implicitDefEqProofs only [xU,qA,cK,bC,cM,aF,aL,qU,Zj,Zs,Zt,Zo,Zk,Zu,reduceIte,reduceCtorEq,qI,AE,AB,iW,Zy,qZ,qC,qT,dY,iU,AD,bI,cG,cV,tZ,eA,bP,aX,aW,BC,BU,eO,eQ, *]
      all_goals first
        | omega
        | exact hb
        | exact Wk.refl _
        | exact he
        | skip
  | true =>
    have hbt:=hb.all
    have hq:=hp
    simp only [cH,Zq,decide_eq_true_eq] at hq
    obtain ⟨⟨⟨_,q1⟩,q2⟩,_⟩:=hq
    have hww:bL s id=mY s id s.threads.length:=if_pos hp
    rw [hww] at h8 h9
    refine AC.inlD cD Tm (by simp [xU]) (by omega) hM (by simp -implicitDefEqProofs only [qA,cK,bC,cM,aF,aL,qU,Zj,Zs,Zt,Zo,Zk,Zu,reduceIte,reduceCtorEq,qI,AE,AB,qZ]; first | done | exact rfl) (by simp -implicitDefEqProofs only [qA,cK,bC,cM,aF,aL,qU,Zj,Zs,Zt,Zo,Zk,Zu,reduceIte,reduceCtorEq,qI,AE,AB,qZ]; first | done | exact rfl) (by simp -implicitDefEqProofs only [qA,cK,bC,cM,aF,aL,qU,Zj,Zs,Zt,Zo,Zk,Zu,reduceIte,reduceCtorEq,qI,AE,AB,qZ]; first | done | exact rfl) ⟨[],(wM s id (mY s id s.threads.length)),106,?_,fun e he=>?_⟩
    · by_cases hw:mY s id s.threads.length=[]
      · have k:=h8 hw
        clear h8 h9
        rw [hw]
        refine ⟨[],[],?_,?_,?_,?_⟩
        all_goals simp -implicitDefEqProofs only [xO,qA,cK,bC,cM,aF,aL,qU,Zj,Zs,Zt,Zo,Zk,Zu,reduceIte,reduceCtorEq,qI,AE,AB,qZ]
        all_goals first
          | done
          | exact k
          | skip
      · have k:=h9 hw
        clear h8 h9
        rw [Au hw]
        refine ⟨[],[(85,81)],?_,?_,?_,?_⟩
        all_goals simp -implicitDefEqProofs only [qA,cK,bC,cM,aF,aL,qU,Zj,Zs,Zt,Zo,Zk,Zu,reduceIte,reduceCtorEq,qI,AE,AB,qZ]
        all_goals first
          | done
          | exact k
          | skip
    · clear h8 h9 hM hww
      repeat' with_reducible first|refine aO (fun h=>?_) (fun h=>?_)|refine aT (fun h=>?_) (fun h=>?_)|refine aC (fun h=>?_) (fun h=>?_)|refine aH (fun h=>?_) (fun h=>?_)|refine FN ?_ ?_ ?_ ?_ rfl ?_|refine aP ?_ ?_|refine aU ?_ ?_|refine bE ?_ ?_|refine I2 cD Jg Ih ?_ ?_ ?_ ?_ ?_|refine IA ?_ ?_ ?_|refine L1 ?_ ?_|refine L2 ?_ ?_|refine L3 ?_ ?_ ?_ ?_|refine L4 ?_ ?_|refine L5 ?_ ?_ ?_ ?_ ?_|refine L6 ?_ ?_ ?_ ?_ ?_|refine AC.p0 (gC ?_) ?_ (by simp -implicitDefEqProofs only [qU,pure_encZ]; done) ?_ ?_|refine P0 iI ?_ ?_ ?_|refine dR (d:=default) ?_ ?_|refine P0 (cJ) ?_ ?_ ?_|refine AY (cJ) ?_ ?_ ?_|refine ACK.of (cJ) ?_ ?_|simp -implicitDefEqProofs only [xU,qA,cK,bC,cM,aF,aL,qU,Zj,Zs,Zt,Zo,Zk,Zu,reduceIte,reduceCtorEq,qI,AE,AB,yB,iW,Zy,qZ,qC,qT,dY,iU,AD,bI,cG,cV,tZ,eA,bP,aX,aW,BC,BU,eO,eQ, *]
      all_goals first
        | omega
        | exact hb
        | refine pN 90 (fun k:Nat=>nl 2 (some (.fn (.func 72) [] [.ptr 17 0 0]) :: some (.ptr 82 0 0) :: nl 2 (some (.ptr 83 0 0) :: nl 17 (some (.int .i64 s.threads.length) :: some (.int .i64 k) :: nl 23 [])))) (fun k=>(wM s id (mY s id k))) (fun k=>k≤s.threads.length) (fun k=>s.threads.length - k) [] [(81,82),(273,84),(289,83)] 0 (by omega) ?_ ?_ ?_ ?_ ?_ ?_
        | skip
      rotate_right
      · intro k hk
        have hN:=Iz s id k
        have hL:=tG s id k
        have w2:IntKind.wrap .i64 ((k:Int)+1)=((k+1:Nat):Int):=aR (by omega) (by omega)
        simp only [dF,dE,all_nil,eO,eQ]
        intros
        have hE:k=s.threads.length→gB 81 [(17,.rows 27 1 [[.slnil]])] e (cI []) ((wM s id (mY s id k))) 106:=fun e=>e ▸ he
        clear he
        by_cases h0:mY s id k=[]
        · rw [h0] at hN hE ⊢
          simp only [xO,List.nil_append] at hN hE ⊢
          cases hh:eE s id k with
          | false =>
            have hN:mY s id (k+1)=[]:=by rw [hN,hh]; rfl
            repeat' with_reducible first|refine aO (fun h=>?_) (fun h=>?_)|refine aT (fun h=>?_) (fun h=>?_)|refine aC (fun h=>?_) (fun h=>?_)|refine aH (fun h=>?_) (fun h=>?_)|refine FN ?_ ?_ ?_ ?_ rfl ?_|refine aP ?_ ?_|refine aU ?_ ?_|refine bE ?_ ?_|refine I2 cD Jx Af ?_ ?_ ?_ ?_ ?_|refine IA ?_ ?_ ?_|refine L1 ?_ ?_|refine L2 ?_ ?_|refine L3 ?_ ?_ ?_ ?_|refine L4 ?_ ?_|refine L5 ?_ ?_ ?_ ?_ ?_|refine L6 ?_ ?_ ?_ ?_ ?_|refine AC.p0 (gC ?_) ?_ (by simp -implicitDefEqProofs only [qU,pure_encZ]; done) ?_ ?_|refine P0 iI ?_ ?_ ?_|refine dR (d:=default) ?_ ?_|refine AC.view (f:=180) [84] ?_ ?_ ?_|refine AY lK ?_ ?_ ?_|refine oA (fO _ _ _ _ _ _ (by simp -implicitDefEqProofs only [m_get,Zk,reduceIte,if_true,if_false]; first|done|exact rfl) ?_) ?_ ?_ ?_ ?_|refine kZ (fO _ _ _ _ _ _ (by simp -implicitDefEqProofs only [m_get,Zk,reduceIte,if_true,if_false]; first|done|exact rfl) ?_) (by simp -implicitDefEqProofs only [m_get,Zk,reduceIte,if_true,if_false]; first|done|exact rfl) ?_ ?_ ?_ ?_|refine fK [] [(82,82),(84,84),(83,83)] (k+1) ?_ ?_ ?_ ?_ ?_ ?_|refine P0 (cJ) ?_ ?_ ?_|refine AY (cJ) ?_ ?_ ?_|refine ACK.of (cJ) ?_ ?_|simp -implicitDefEqProofs only [xU,qA,cK,bC,cM,aF,aL,qU,Zj,Zs,Zt,Zo,Zk,Zu,reduceIte,reduceCtorEq,qI,AE,AB,Bi,iW,Zy,qZ,qC,qT,dY,iU,AD,bI,cG,cV,tZ,eA,bP,aX,aW,BC,BU,eO,eQ,xO, *]
            all_goals first
              | omega
              | (simp only [decide_eq_true_eq] at *; omega)
              | (simp only [decide_eq_true_eq] at *; constructor <;> omega)
              | (simp only [decide_eq_false_iff_not] at *; exact hE (by omega))
              | (exfalso; clear hE; simp only [eE,me,Bool.and_eq_false_iff,Zq,decide_eq_true_eq,decide_eq_false_iff_not] at *; omega)
              | (exfalso; clear hE hN; simp [eE,me] at *; omega)
              | (exfalso; clear hE hN; simp_all [eE,me]; done)
              | (exfalso; clear hE hN; simp_all [eE,me]; omega)
              | (exfalso; grind [eE,me])
              | skip
          | true =>
            have hN:mY s id (k+1)=[(k:Int)]:=by rw [hN,hh]; rfl
            repeat' with_reducible first|refine aO (fun h=>?_) (fun h=>?_)|refine aT (fun h=>?_) (fun h=>?_)|refine aC (fun h=>?_) (fun h=>?_)|refine aH (fun h=>?_) (fun h=>?_)|refine FN ?_ ?_ ?_ ?_ rfl ?_|refine aP ?_ ?_|refine aU ?_ ?_|refine bE ?_ ?_|refine I2 cD Jx Af ?_ ?_ ?_ ?_ ?_|refine IA ?_ ?_ ?_|refine L1 ?_ ?_|refine L2 ?_ ?_|refine L3 ?_ ?_ ?_ ?_|refine L4 ?_ ?_|refine L5 ?_ ?_ ?_ ?_ ?_|refine L6 ?_ ?_ ?_ ?_ ?_|refine AC.p0 (gC ?_) ?_ (by simp -implicitDefEqProofs only [qU,pure_encZ]; done) ?_ ?_|refine P0 iI ?_ ?_ ?_|refine dR (d:=default) ?_ ?_|refine AC.view (f:=180) [84] ?_ ?_ ?_|refine AY lK ?_ ?_ ?_|refine oA (fO _ _ _ _ _ _ (by simp -implicitDefEqProofs only [m_get,Zk,reduceIte,if_true,if_false]; first|done|exact rfl) ?_) ?_ ?_ ?_ ?_|refine kZ (fO _ _ _ _ _ _ (by simp -implicitDefEqProofs only [m_get,Zk,reduceIte,if_true,if_false]; first|done|exact rfl) ?_) (by simp -implicitDefEqProofs only [m_get,Zk,reduceIte,if_true,if_false]; first|done|exact rfl) ?_ ?_ ?_ ?_|refine fK [] [(82,82),(84,84),(83,83),(490,85)] (k+1) ?_ ?_ ?_ ?_ ?_ ?_|refine P0 (cJ) ?_ ?_ ?_|refine AY (cJ) ?_ ?_ ?_|refine ACK.of (cJ) ?_ ?_|simp -implicitDefEqProofs only [xU,qA,cK,bC,cM,aF,aL,qU,Zj,Zs,Zt,Zo,Zk,Zu,reduceIte,reduceCtorEq,qI,AE,AB,Bi,iW,Zy,qZ,qC,qT,dY,iU,AD,bI,cG,cV,tZ,eA,bP,aX,aW,BC,BU,eO,eQ,Om, *]
            all_goals first
              | omega
              | (simp only [decide_eq_true_eq] at *; omega)
              | (simp only [decide_eq_true_eq] at *; constructor <;> omega)
              | (simp only [decide_eq_false_iff_not] at *; exact hE (by omega))
              | (exfalso; clear hE; simp only [eE,me,Bool.and_eq_false_iff,Zq,decide_eq_true_eq,decide_eq_false_iff_not] at *; omega)
              | (exfalso; clear hE hN; simp [eE,me] at *; omega)
              | (exfalso; clear hE hN; simp_all [eE,me]; done)
              | (exfalso; clear hE hN; simp_all [eE,me]; omega)
              | (exfalso; grind [eE,me])
              | skip
        · have hS:=Au (s:=s) (id:=id) h0
          rw [hS] at hE ⊢
          cases hh:eE s id k with
          | false =>
            have hN:mY s id (k+1)=mY s id k:=by rw [hN,hh]; simp
            repeat' with_reducible first|refine aO (fun h=>?_) (fun h=>?_)|refine aT (fun h=>?_) (fun h=>?_)|refine aC (fun h=>?_) (fun h=>?_)|refine aH (fun h=>?_) (fun h=>?_)|refine FN ?_ ?_ ?_ ?_ rfl ?_|refine aP ?_ ?_|refine aU ?_ ?_|refine bE ?_ ?_|refine I2 cD Jx Af ?_ ?_ ?_ ?_ ?_|refine IA ?_ ?_ ?_|refine L1 ?_ ?_|refine L2 ?_ ?_|refine L3 ?_ ?_ ?_ ?_|refine L4 ?_ ?_|refine L5 ?_ ?_ ?_ ?_ ?_|refine L6 ?_ ?_ ?_ ?_ ?_|refine AC.p0 (gC ?_) ?_ (by simp -implicitDefEqProofs only [qU,pure_encZ]; done) ?_ ?_|refine P0 iI ?_ ?_ ?_|refine dR (d:=default) ?_ ?_|refine AC.view (f:=180) [84] ?_ ?_ ?_|refine AY lK ?_ ?_ ?_|refine oA (fO _ _ _ _ _ _ (by simp -implicitDefEqProofs only [m_get,Zk,reduceIte,if_true,if_false]; first|done|exact rfl) ?_) ?_ ?_ ?_ ?_|refine kZ (fO _ _ _ _ _ _ (by simp -implicitDefEqProofs only [m_get,Zk,reduceIte,if_true,if_false]; first|done|exact rfl) ?_) (by simp -implicitDefEqProofs only [m_get,Zk,reduceIte,if_true,if_false]; first|done|exact rfl) ?_ ?_ ?_ ?_|refine fK [] [(82,82),(84,84),(83,83),(85,85)] (k+1) ?_ ?_ ?_ ?_ ?_ ?_|refine P0 (cJ) ?_ ?_ ?_|refine AY (cJ) ?_ ?_ ?_|refine ACK.of (cJ) ?_ ?_|simp -implicitDefEqProofs only [xU,qA,cK,bC,cM,aF,aL,qU,Zj,Zs,Zt,Zo,Zk,Zu,reduceIte,reduceCtorEq,qI,AE,AB,Bi,iW,Zy,qZ,qC,qT,dY,iU,AD,bI,cG,cV,tZ,eA,bP,aX,aW,BC,BU,eO,eQ, *]
            all_goals first
              | omega
              | (simp only [decide_eq_true_eq] at *; omega)
              | (simp only [decide_eq_true_eq] at *; constructor <;> omega)
              | (simp only [decide_eq_false_iff_not] at *; exact hE (by omega))
              | (exfalso; clear hE; simp only [eE,me,Bool.and_eq_false_iff,Zq,decide_eq_true_eq,decide_eq_false_iff_not] at *; omega)
              | (exfalso; clear hE hN; simp [eE,me] at *; omega)
              | (exfalso; clear hE hN; simp_all [eE,me]; done)
              | (exfalso; clear hE hN; simp_all [eE,me]; omega)
              | (exfalso; grind [eE,me])
              | skip
          | true =>
            have hN:mY s id (k+1)=mY s id k ++ [(k:Int)]:=by rw [hN,hh]; rfl
            repeat' with_reducible first|refine aO (fun h=>?_) (fun h=>?_)|refine aT (fun h=>?_) (fun h=>?_)|refine aC (fun h=>?_) (fun h=>?_)|refine aH (fun h=>?_) (fun h=>?_)|refine FN ?_ ?_ ?_ ?_ rfl ?_|refine aP ?_ ?_|refine aU ?_ ?_|refine bE ?_ ?_|refine I2 cD Jx Af ?_ ?_ ?_ ?_ ?_|refine IA ?_ ?_ ?_|refine L1 ?_ ?_|refine L2 ?_ ?_|refine L3 ?_ ?_ ?_ ?_|refine L4 ?_ ?_|refine L5 ?_ ?_ ?_ ?_ ?_|refine L6 ?_ ?_ ?_ ?_ ?_|refine AC.p0 (gC ?_) ?_ (by simp -implicitDefEqProofs only [qU,pure_encZ]; done) ?_ ?_|refine P0 iI ?_ ?_ ?_|refine dR (d:=default) ?_ ?_|refine AC.view (f:=180) [84] ?_ ?_ ?_|refine AY lK ?_ ?_ ?_|refine oA (fO _ _ _ _ _ _ (by simp -implicitDefEqProofs only [m_get,Zk,reduceIte,if_true,if_false]; first|done|exact rfl) ?_) ?_ ?_ ?_ ?_|refine kZ (fO _ _ _ _ _ _ (by simp -implicitDefEqProofs only [m_get,Zk,reduceIte,if_true,if_false]; first|done|exact rfl) ?_) (by simp -implicitDefEqProofs only [m_get,Zk,reduceIte,if_true,if_false]; first|done|exact rfl) ?_ ?_ ?_ ?_|refine fK [] [(82,82),(84,84),(83,83),(490,85)] (k+1) ?_ ?_ ?_ ?_ ?_ ?_|refine P0 (cJ) ?_ ?_ ?_|refine AY (cJ) ?_ ?_ ?_|refine ACK.of (cJ) ?_ ?_|simp -implicitDefEqProofs only [xU,qA,cK,bC,cM,aF,aL,qU,Zj,Zs,Zt,Zo,Zk,Zu,reduceIte,reduceCtorEq,qI,AE,AB,Bi,iW,Zy,qZ,qC,qT,dY,iU,AD,bI,cG,cV,tZ,eA,bP,aX,aW,BC,BU,eO,eQ,Ol,List.map_append, *]
            all_goals first
              | omega
              | (simp only [decide_eq_true_eq] at *; omega)
              | (simp only [decide_eq_true_eq] at *; constructor <;> omega)
              | (simp only [decide_eq_false_iff_not] at *; exact hE (by omega))
              | (exfalso; clear hE; simp only [eE,me,Bool.and_eq_false_iff,Zq,decide_eq_true_eq,decide_eq_false_iff_not] at *; omega)
              | (exfalso; clear hE hN; simp [eE,me] at *; omega)
              | (exfalso; clear hE hN; simp_all [eE,me]; done)
              | (exfalso; clear hE hN; simp_all [eE,me]; omega)
              | (exfalso; grind [eE,me])
              | skip
      all_goals first
        | omega
        | exact Nat.zero_le _
        | (rw [show mY s id 0=[] from rfl,xO]; simp -implicitDefEqProofs only [qA,cK,bC,cM,aF,aL,qU,Zj,Zs,Zt,Zo,Zk,Zu,reduceIte,reduceCtorEq,qI,AE,AB,qZ]; done)
        | (simp -implicitDefEqProofs only [qA,cK,bC,cM,aF,aL,qU,Zj,Zs,Zt,Zo,Zk,Zu,reduceIte,reduceCtorEq,qI,AE,AB,qZ,eO,eQ,xO]; first | done | (simp; done))
        | skip

end Go.Sak
