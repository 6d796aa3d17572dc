/- Part T73 of the proofs about the program: K80, K81. Conditions: none. -/
import Derived.Test.YtahdilehajdhgaaGreatT22
import Derived.Test.YtahdilehajdhgaaGreatT41
import Derived.Test.YtahdilehajdhgaaGreatT47
open Go.Sak.ACK renaming of→F8
open Go.Sak.ACV renaming of→F3
open Go.Sak.Event renaming mk→D8
open Int renaming natCast_one→P7,natCast_zero→F2,reduceEq→F5,reduceNe→F6,toNat_natCast→E1
open List renaming append_nil→N4,cons_append→N2,drop_zero→X0,eq_nil_of_length_eq_zero→L0,getD_eq_getElem?_getD→E7,length_drop→T6,length_map→G8,length_take→N6,map_append→J6,nil_append→J0,reduceReplicate→D2,take_length→N7,take_of_length_le→F4
open Nat renaming le_refl→G2,reduceAdd→D5,reduceBEq→E2,reduceEqDiff→D1,reduceLT→E3,reduceLeDiff→D4,reduceMul→D7,reduceSub→D6
open Go.Proofs.Tryz renaming prog→D9
open Go.Sak.Wk renaming nil→P6,refl→G4,tup→V3
namespace Go.Sak
open Go Go.RowKit Go.Proofs
set_option linter.unusedVariables false
set_option linter.unusedSimpArgs false
set_option maxRecDepth 10000
set_option maxHeartbeats 8000000
def Fo:AFn:=⟨3,(.seq (.reg [o1 2 (.mv (.const (.bool false)))]) (.seq (.reg [o1 2 (.mv (.const (.bool true)))]) .ret)),[(2,none)]⟩
theorem Mj:xf D9 290=some Fo:=by kernel_rfl
theorem Ep:Fo.code.lf=true:=rfl
theorem FS {l:List Int} {k:Nat} (h:gY l=true):gY (l.drop k)=true:=Cd h (List.drop_sublist k l)
theorem Sj {l:List Int} {k:Nat} (h:gY l=true) (hk:k<l.length):pN (l.drop k)=(l.getD k default,l.drop (k+1),true):=by
  unfold pN
  rw [if_neg (by simp only [FS h,T6]; simp; omega)]
  refine Prod.ext (by simp [E7]) (Prod.ext (by simp [Nat.add_comm]) rfl)
theorem Yp {l:List Int} {k:Nat} (h:gY l=true) (hk:k=l.length):pN (l.drop k)=(0,[],false):=by
  unfold pN; rw [if_pos (.inr (by simp [hk])),hk,List.drop_length]
theorem Zj {l:List Int} {k:Nat} (hk:k<l.length):l.take (k+1)=l.take k ++ [l.getD k default]:=by
  rw [List.take_succ_eq_append_getElem hk]; simp [E7,hk]
theorem EC {fF : Int} {eH:List Int} (hl:eH.length≤100000000):cX D9 284 [.agg [.int .i64 fF,.slv 1 (eH.map aS)],.fn (.func 290) [] []] (.tup [.agg (dO (dH ⟨fF,eH⟩).1),.slv 1 ((dH ⟨fF,eH⟩).2.map aS)],[],[]):=by
  by_cases hv:eZ ⟨fF,eH⟩=true
  · have hc : gY eH=true:=Ek hv
    have hb:0≤fF∧fF≤1099511627776:=by simp [eZ] at hv; omega
    have hmin:(if 1099511627776<IntKind.wrap .i64 (fF+1) then (1099511627776:Int) else IntKind.wrap .i64 (fF+1))=min (fF+1) 1099511627776:=by
      rw [bL (by omega) (by omega)]; split <;> omega
    rw [show dH ⟨fF,eH⟩=(⟨min (fF+1) 1099511627776,[]⟩,eH) from by simp [dH,hv]]
    generalize min (fF+1) 1099511627776=ep at hmin ⊢
    refine aI bP Tl (by simp [uE]) fun hw _=>?_
    clear hw
    repeat' with_reducible first|refine aQ (fun h=>?_) (fun h=>?_)|refine bB (fun h=>?_) (fun h=>?_)|refine aF (fun h=>?_) (fun h=>?_)|refine aH (fun h=>?_) (fun h=>?_)|refine FN ?_ ?_ ?_ ?_ rfl ?_|refine aR ?_ ?_|refine bC ?_ ?_|refine bM ?_ ?_|refine I2 bP Mj Ep ?_ ?_ ?_ ?_ ?_|refine I2 bP Dt wY ?_ ?_ ?_ ?_ ?_|refine IA ?_ ?_ ?_|refine L1 ?_ ?_|refine L2 ?_ ?_|refine L3 ?_ ?_ ?_ ?_|refine L4 ?_ ?_|refine L5 ?_ ?_ ?_ ?_ ?_|refine L6 ?_ ?_ ?_ ?_ ?_|refine P0 (fT ?_) ?_ ?_ ?_|refine F3 (fT ?_) ?_ ?_ ?_|refine F8 (fT ?_) ?_ ?_|refine P0 (gV ?_) ?_ ?_ ?_|refine F3 (gV ?_) ?_ ?_ ?_|refine F8 (gV ?_) ?_ ?_|refine P0 (gF ?_) ?_ ?_ ?_|refine F3 (gF ?_) ?_ ?_ ?_|refine F8 (gF ?_) ?_ ?_|simp -implicitDefEqProofs only [uE,qA,bN,bD,bO,aJ,aP,qU,D2,D5,D6,D4,D1,D7,reduceIte,reduceCtorEq,qI,E3,E2,Fo,zU,cL,E1,bH,dO,eW,bY,dC,bS,cJ,cY,F2,P7,F5,F6, *]
    all_goals first
      | omega
      | refine oO 8 (fun k:Nat=>nl 1 (some (.fn (.func 290) [] []) :: nl 2 (some (.ptr 2 0 0) :: nl 1 (some (.ptr 3 0 0) :: some (if k=0 then .slnil else .slm 4 k) :: some (.fn (.func 296) [.ptr 3 0 0] []) :: nl 36 [])))) (fun k=>[(2,.rows 29 2 [[.int .i64 0,.slnil]]),(3,.rows 247 2 [[.int .i64 ep,.slv 1 ((eH.drop k).map aS)]])] ++ (if k=0 then [] else [(4,.rows 3 1 ((eH.take k).map aS))])) (fun k=>k≤eH.length) (fun k=>eH.length+1 - k) [] [(17,2),(97,3)] 0 (by omega) ?_ ?_ ?_ ?_ ?_ ?_
      | skip
    rotate_right
    · intro k hk
      simp only [dL,dK,all_nil,dI,dJ]
      intros
      rcases Nat.lt_or_eq_of_le hk with hlt | heq
      · have hN := Sj hc hlt
        have hT:=Zj hlt
        by_cases h0:k=0
        · subst h0
          simp only [X0,List.take_zero,J0,Nat.zero_add] at hN hT
          simp -implicitDefEqProofs only [if_true,N4]
          repeat' with_reducible first|refine aQ (fun h=>?_) (fun h=>?_)|refine bB (fun h=>?_) (fun h=>?_)|refine aF (fun h=>?_) (fun h=>?_)|refine aH (fun h=>?_) (fun h=>?_)|refine FN ?_ ?_ ?_ ?_ rfl ?_|refine aR ?_ ?_|refine bC ?_ ?_|refine bM ?_ ?_|refine I2 bP Mj Ep ?_ ?_ ?_ ?_ ?_|refine I2 bP Dt wY ?_ ?_ ?_ ?_ ?_|refine IA ?_ ?_ ?_|refine L1 ?_ ?_|refine L2 ?_ ?_|refine L3 ?_ ?_ ?_ ?_|refine L4 ?_ ?_|refine L5 ?_ ?_ ?_ ?_ ?_|refine L6 ?_ ?_ ?_ ?_ ?_|refine jK (eL _ _ _ _ _ _ (by simp -implicitDefEqProofs only [m_get,D1,reduceIte,if_true,if_false]; first|done|exact rfl) ?_) ?_ ?_ ?_ ?_|refine eM (eL _ _ _ _ _ _ (by simp -implicitDefEqProofs only [m_get,D1,reduceIte,if_true,if_false]; first|done|exact rfl) ?_) (by simp -implicitDefEqProofs only [m_get,D1,reduceIte,if_true,if_false]; first|done|exact rfl) ?_ ?_ ?_ ?_|refine gW [] [(2,2),(3,3),(264,4)] 1 ?_ ?_ ?_ ?_ ?_ ?_|refine P0 (fT ?_) ?_ ?_ ?_|refine F3 (fT ?_) ?_ ?_ ?_|refine F8 (fT ?_) ?_ ?_|refine P0 (gV ?_) ?_ ?_ ?_|refine F3 (gV ?_) ?_ ?_ ?_|refine F8 (gV ?_) ?_ ?_|refine P0 (gF ?_) ?_ ?_ ?_|refine F3 (gF ?_) ?_ ?_ ?_|refine F8 (gF ?_) ?_ ?_|simp -implicitDefEqProofs only [uE,qA,bN,bD,bO,aJ,aP,qU,D2,D5,D6,D4,D1,D7,reduceIte,reduceCtorEq,qI,E3,E2,Fo,zU,cL,E1,bH,dO,eW,bY,dC,bS,cJ,cY,F2,P7,F5,F6, *]
          all_goals first
            | omega
            | (simp only [N6,T6]; omega)
            | (rw [J6]; rfl)
            | (rw [hT]; simp [aS]; done)
            | (simp [hT,aS]; omega)
            | (simp [aS,E7,hlt]; done)
            | exact G4 _
            | (rw [F4 (by simp)]; exact G4 _)
            | (obtain rfl:eH=[]:=L0 hg
               exact V3 ⟨G4 _,id,P6 _,id,trivial⟩)
            | (obtain rfl:k=eH.length:=hg
               simp only [N7,G8,G2,if_true]
               try rw [F4 (by simp)]
               exact G4 _)
            | skip
        · simp -implicitDefEqProofs only [if_neg h0,N2,J0]
          repeat' with_reducible first|refine aQ (fun h=>?_) (fun h=>?_)|refine bB (fun h=>?_) (fun h=>?_)|refine aF (fun h=>?_) (fun h=>?_)|refine aH (fun h=>?_) (fun h=>?_)|refine FN ?_ ?_ ?_ ?_ rfl ?_|refine aR ?_ ?_|refine bC ?_ ?_|refine bM ?_ ?_|refine I2 bP Mj Ep ?_ ?_ ?_ ?_ ?_|refine I2 bP Dt wY ?_ ?_ ?_ ?_ ?_|refine IA ?_ ?_ ?_|refine L1 ?_ ?_|refine L2 ?_ ?_|refine L3 ?_ ?_ ?_ ?_|refine L4 ?_ ?_|refine L5 ?_ ?_ ?_ ?_ ?_|refine L6 ?_ ?_ ?_ ?_ ?_|refine jK (eL _ _ _ _ _ _ (by simp -implicitDefEqProofs only [m_get,D1,reduceIte,if_true,if_false]; first|done|exact rfl) ?_) ?_ ?_ ?_ ?_|refine eM (eL _ _ _ _ _ _ (by simp -implicitDefEqProofs only [m_get,D1,reduceIte,if_true,if_false]; first|done|exact rfl) ?_) (by simp -implicitDefEqProofs only [m_get,D1,reduceIte,if_true,if_false]; first|done|exact rfl) ?_ ?_ ?_ ?_|refine gW [] [(2,2),(3,3),(264,4)] (k+1) ?_ ?_ ?_ ?_ ?_ ?_|refine P0 (fT ?_) ?_ ?_ ?_|refine F3 (fT ?_) ?_ ?_ ?_|refine F8 (fT ?_) ?_ ?_|refine P0 (gV ?_) ?_ ?_ ?_|refine F3 (gV ?_) ?_ ?_ ?_|refine F8 (gV ?_) ?_ ?_|refine P0 (gF ?_) ?_ ?_ ?_|refine F3 (gF ?_) ?_ ?_ ?_|refine F8 (gF ?_) ?_ ?_|simp -implicitDefEqProofs only [uE,qA,bN,bD,bO,aJ,aP,qU,D2,D5,D6,D4,D1,D7,reduceIte,reduceCtorEq,qI,E3,E2,Fo,zU,cL,E1,bH,dO,eW,bY,dC,bS,cJ,cY,F2,P7,F5,F6, *]
          all_goals first
            | omega
            | (simp only [N6,T6]; omega)
            | (rw [J6]; rfl)
            | (rw [hT]; simp [aS]; done)
            | (simp [hT,aS]; omega)
            | (simp [aS,E7,hlt]; done)
            | exact G4 _
            | (rw [F4 (by simp)]; exact G4 _)
            | (obtain rfl:eH=[]:=L0 hg
               exact V3 ⟨G4 _,id,P6 _,id,trivial⟩)
            | (obtain rfl:k=eH.length:=hg
               simp only [N7,G8,G2,if_true]
               try rw [F4 (by simp)]
               exact G4 _)
            | skip
      · have hN := Yp hc heq
        by_cases h0:k=0
        · subst h0
          simp only [X0] at hN
          simp -implicitDefEqProofs only [if_true,N4]
          have hg:id (eH.length=0):=heq.symm
          clear heq hk
          repeat' with_reducible first|refine aQ (fun h=>?_) (fun h=>?_)|refine bB (fun h=>?_) (fun h=>?_)|refine aF (fun h=>?_) (fun h=>?_)|refine aH (fun h=>?_) (fun h=>?_)|refine FN ?_ ?_ ?_ ?_ rfl ?_|refine aR ?_ ?_|refine bC ?_ ?_|refine bM ?_ ?_|refine I2 bP Mj Ep ?_ ?_ ?_ ?_ ?_|refine I2 bP Dt wY ?_ ?_ ?_ ?_ ?_|refine IA ?_ ?_ ?_|refine L1 ?_ ?_|refine L2 ?_ ?_|refine L3 ?_ ?_ ?_ ?_|refine L4 ?_ ?_|refine L5 ?_ ?_ ?_ ?_ ?_|refine L6 ?_ ?_ ?_ ?_ ?_|refine jK (eL _ _ _ _ _ _ (by simp -implicitDefEqProofs only [m_get,D1,reduceIte,if_true,if_false]; first|done|exact rfl) ?_) ?_ ?_ ?_ ?_|refine eM (eL _ _ _ _ _ _ (by simp -implicitDefEqProofs only [m_get,D1,reduceIte,if_true,if_false]; first|done|exact rfl) ?_) (by simp -implicitDefEqProofs only [m_get,D1,reduceIte,if_true,if_false]; first|done|exact rfl) ?_ ?_ ?_ ?_|refine P0 (fT ?_) ?_ ?_ ?_|refine F3 (fT ?_) ?_ ?_ ?_|refine F8 (fT ?_) ?_ ?_|refine P0 (gV ?_) ?_ ?_ ?_|refine F3 (gV ?_) ?_ ?_ ?_|refine F8 (gV ?_) ?_ ?_|refine P0 (gF ?_) ?_ ?_ ?_|refine F3 (gF ?_) ?_ ?_ ?_|refine F8 (gF ?_) ?_ ?_|simp -implicitDefEqProofs only [uE,qA,bN,bD,bO,aJ,aP,qU,D2,D5,D6,D4,D1,D7,reduceIte,reduceCtorEq,qI,E3,E2,Fo,zU,cL,E1,bH,dO,eW,bY,dC,bS,cJ,cY,F2,P7,F5,F6, *]
          all_goals first
            | omega
            | (simp only [N6,T6]; omega)
            | (rw [J6]; rfl)
            | (rw [hT]; simp [aS]; done)
            | (simp [hT,aS]; omega)
            | (simp [aS,E7,hlt]; done)
            | exact G4 _
            | (rw [F4 (by simp)]; exact G4 _)
            | (obtain rfl:eH=[]:=L0 hg
               exact V3 ⟨G4 _,id,P6 _,id,trivial⟩)
            | (obtain rfl:k=eH.length:=hg
               simp only [N7,G8,G2,if_true]
               try rw [F4 (by simp)]
               exact G4 _)
            | skip
        · simp -implicitDefEqProofs only [if_neg h0,N2,J0]
          have hg:id (k=eH.length):=heq
          clear heq
          repeat' with_reducible first|refine aQ (fun h=>?_) (fun h=>?_)|refine bB (fun h=>?_) (fun h=>?_)|refine aF (fun h=>?_) (fun h=>?_)|refine aH (fun h=>?_) (fun h=>?_)|refine FN ?_ ?_ ?_ ?_ rfl ?_|refine aR ?_ ?_|refine bC ?_ ?_|refine bM ?_ ?_|refine I2 bP Mj Ep ?_ ?_ ?_ ?_ ?_|refine I2 bP Dt wY ?_ ?_ ?_ ?_ ?_|refine IA ?_ ?_ ?_|refine L1 ?_ ?_|refine L2 ?_ ?_|refine L3 ?_ ?_ ?_ ?_|refine L4 ?_ ?_|refine L5 ?_ ?_ ?_ ?_ ?_|refine L6 ?_ ?_ ?_ ?_ ?_|refine jK (eL _ _ _ _ _ _ (by simp -implicitDefEqProofs only [m_get,D1,reduceIte,if_true,if_false]; first|done|exact rfl) ?_) ?_ ?_ ?_ ?_|refine eM (eL _ _ _ _ _ _ (by simp -implicitDefEqProofs only [m_get,D1,reduceIte,if_true,if_false]; first|done|exact rfl) ?_) (by simp -implicitDefEqProofs only [m_get,D1,reduceIte,if_true,if_false]; first|done|exact rfl) ?_ ?_ ?_ ?_|refine P0 (fT ?_) ?_ ?_ ?_|refine F3 (fT ?_) ?_ ?_ ?_|refine F8 (fT ?_) ?_ ?_|refine P0 (gV ?_) ?_ ?_ ?_|refine F3 (gV ?_) ?_ ?_ ?_|refine F8 (gV ?_) ?_ ?_|refine P0 (gF ?_) ?_ ?_ ?_|refine F3 (gF ?_) ?_ ?_ ?_|refine F8 (gF ?_) ?_ ?_|simp -implicitDefEqProofs only [uE,qA,bN,bD,bO,aJ,aP,qU,D2,D5,D6,D4,D1,D7,reduceIte,reduceCtorEq,qI,E3,E2,Fo,zU,cL,E1,bH,dO,eW,bY,dC,bS,cJ,cY,F2,P7,F5,F6, *]
          all_goals first
            | omega
            | (simp only [N6,T6]; omega)
            | (rw [J6]; rfl)
            | (rw [hT]; simp [aS]; done)
            | (simp [hT,aS]; omega)
            | (simp [aS,E7,hlt]; done)
            | exact G4 _
            | (rw [F4 (by simp)]; exact G4 _)
            | (obtain rfl:eH=[]:=L0 hg
               exact V3 ⟨G4 _,id,P6 _,id,trivial⟩)
            | (obtain rfl:k=eH.length:=hg
               simp only [N7,G8,G2,if_true]
               try rw [F4 (by simp)]
               exact G4 _)
            | skip
    all_goals first
      | omega
      | (simp -implicitDefEqProofs only [qA,bN,bD,bO,aJ,aP,qU,D2,D5,D6,D4,D1,D7,reduceIte,reduceCtorEq,qI,E3,E2,qZ,dI,dJ]; first | done | (simp; done))
      | skip
  · have hv':eZ ⟨fF,eH⟩=false:=by simpa using hv
    rw [show dH ⟨fF,eH⟩=(⟨fF,eH⟩,[]) from by simp [dH,hv]]
    refine aI bP Tl (by simp [uE]) fun hw _=>?_
    clear hw
    repeat' with_reducible first|refine aQ (fun h=>?_) (fun h=>?_)|refine bB (fun h=>?_) (fun h=>?_)|refine aF (fun h=>?_) (fun h=>?_)|refine aH (fun h=>?_) (fun h=>?_)|refine FN ?_ ?_ ?_ ?_ rfl ?_|refine aR ?_ ?_|refine bC ?_ ?_|refine bM ?_ ?_|refine I2 bP Mj Ep ?_ ?_ ?_ ?_ ?_|refine I2 bP Dt wY ?_ ?_ ?_ ?_ ?_|refine IA ?_ ?_ ?_|refine L1 ?_ ?_|refine L2 ?_ ?_|refine L3 ?_ ?_ ?_ ?_|refine L4 ?_ ?_|refine L5 ?_ ?_ ?_ ?_ ?_|refine L6 ?_ ?_ ?_ ?_ ?_|refine P0 (fT ?_) ?_ ?_ ?_|refine F3 (fT ?_) ?_ ?_ ?_|refine F8 (fT ?_) ?_ ?_|refine P0 (gV ?_) ?_ ?_ ?_|refine F3 (gV ?_) ?_ ?_ ?_|refine F8 (gV ?_) ?_ ?_|refine P0 (gF ?_) ?_ ?_ ?_|refine F3 (gF ?_) ?_ ?_ ?_|refine F8 (gF ?_) ?_ ?_|simp -implicitDefEqProofs only [uE,qA,bN,bD,bO,aJ,aP,qU,D2,D5,D6,D4,D1,D7,reduceIte,reduceCtorEq,qI,E3,E2,Fo,zU,cL,E1,bH,dO,eW,bY,dC,bS,cJ,cY,F2,P7,F5,F6, *]
    all_goals first
      | omega
      | (simp at hl ⊢; omega)
      | exact V3 ⟨G4 _,id,P6 _,id,trivial⟩
      | skip

def DD:AFn:=⟨8,(.seq (.reg [o1 1 (.box 29 0),o1 2 (.alloc 29 [(.int .i64 0),.slnil]),o1 3 (.mv (.const .slnil))]) (.seq (.reg [o1 4 (.ld 2 true 1),o1 5 (.call 284 [4,(.func 290)]),o1 6 (.ext 5 0),o1 7 (.ext 5 1),o2 (.st 2 2 6),o1 3 (.mv 7)]) .ret)),[(2,some (2,true)),(3,none)]⟩
theorem TX:xf D9 280=some DD:=by kernel_rfl
theorem Fz {fF:Int} {eH:List Int} (hl:eH.length≤100000000):cX D9 280 [.agg [.int .i64 fF,.slv 1 (eH.map aS)]] ((.tup [.agg (dO ((dH (D8 fF eH)).1)),.slv 1 (((dH (D8 fF eH)).2).map aS)]),[],[]):=by
  refine aI bP TX (by simp [DD]) fun hw _=>?_
  simp only [iS,AV.wf,aY] at hw
  repeat' with_reducible first|refine aQ (fun h=>?_) (fun h=>?_)|refine bB (fun h=>?_) (fun h=>?_)|refine aF (fun h=>?_) (fun h=>?_)|refine aH (fun h=>?_) (fun h=>?_)|refine bJ ?_ ?_ ?_ ?_|refine aR ?_ ?_|refine bC ?_ ?_|refine bM ?_ ?_|refine P0 (EC ?_) ?_ ?_ ?_|simp -implicitDefEqProofs only [DD,qA,cS,cW,aJ,aP,qU,D2,D5,D6,D4,D1,D7,reduceIte,reduceCtorEq,dO,len_slv,G8, *]
  all_goals first
    | (simp; done)
    | exact bE
    | exact bE.symm
    | grind [aY,bL,bI]

set_option maxHeartbeats 8000000
def BZ:AFn:=⟨28,(.seq (.reg [o1 2 (.box 33 0),o1 4 (.mv (.const (.bool false)))]) (.seq (.reg [o1 5 (.mv (.func 276))]) (.seq (.reg [o1 6 (.ld 20 true 2),o1 7 (.call 18 [6]),o1 8 (.mv 7),o3 9 (.mv 1) 8,o3 10 (.bin .geq 9 (ci 0)) 8,o1 11 (.pick 8 10 (.const (.bool false))),o1 12 (.mv 11),o3 13 (.mv 1) 12,o3 14 (.faddr 18 2) 12,o3 15 (.ld 1 false 14) 12,o3 16 (.len 15) 12,o3 17 (.bin .lss 13 16) 12,o1 18 (.pick 12 17 (.const (.bool false))),o1 19 (.mv 18),o3 20 (.mv 5) 19,o3 21 (.faddr 18 2) 19,o3 22 (.ld 1 false 21) 19,o3 23 (.mv 1) 19,o3 24 (.iaddr 11 22 23) 19,o3 25 (.ld 11 true 24) 19,o3 26 (.callv 20 [25]) 19,o1 27 (.pick 19 26 (.const (.bool false))),o1 4 (.mv 27)]) .ret))),[(4,none)]⟩
theorem ST:xf D9 239=some BZ:=by kernel_rfl
def DA:AFn:=⟨12,(.seq (.reg [o1 1 (.box 42 0),o1 2 (.mv (.const (.bool false)))]) (.seq (.reg [o1 3 (.ld 11 true 1),o1 4 (.call 124 [3]),o1 5 (.bin .eql 4 (ci 0)),o1 6 (.mv 5),o3 7 (.faddr 1 1) 6,o3 8 (.ld 1 false 7) 6,o3 9 (.call 75 [8]) 6,o3 10 (.bin .eql 9 (ci 3)) 6,o1 11 (.pick 6 10 (.const (.bool false))),o1 2 (.mv 11)]) .ret)),[(2,none)]⟩
theorem TS:xf D9 276=some DA:=by kernel_rfl
theorem Lc {jD dX:Int} {fX eA:Int} {jC fV:Int} {dZ dF:Int} {dY:Bool} {fW fU:Int}  : cX D9 276 [.agg [.int .i64 jD,.int .i64 dX,.int .i64 fX,.int .i64 eA,.int .i64 jC,.int .i64 fV,.int .i64 dZ,.int .i64 dF,.bool dY,.int .i64 fW,.int .i64 fU]] ((.bool ((decide (kC (Thread.mk jD dX fX eA jC fV dZ dF dY fW fU)=0) && decide (kK ((Thread.mk jD dX fX eA jC fV dZ dF dY fW fU)).kind=3)))),[],[]):=by
  refine aI bP TS (by simp [DA]) fun hw _=>?_
  simp only [iS,AV.wf,aY] at hw
  repeat' with_reducible first|refine aQ (fun h=>?_) (fun h=>?_)|refine bB (fun h=>?_) (fun h=>?_)|refine aF (fun h=>?_) (fun h=>?_)|refine aH (fun h=>?_) (fun h=>?_)|refine bJ ?_ ?_ ?_ ?_|refine aR ?_ ?_|refine bC ?_ ?_|refine bM ?_ ?_|refine P0 (kI) ?_ ?_ ?_|refine F3 (kI) ?_ ?_ ?_|refine F8 (kI) ?_ ?_|refine P0 (gJ) ?_ ?_ ?_|refine F3 (gJ) ?_ ?_ ?_|refine F8 (gJ) ?_ ?_|simp -implicitDefEqProofs only [DA,qA,cS,cW,aJ,aP,qU,D2,D5,D6,D4,D1,D7,reduceIte,reduceCtorEq,bH, *]
  all_goals first
    | (simp; done)
    | exact bE
    | exact bE.symm
    | grind [aY,bL,bI]

theorem Fy {aW aV:Int} {aN aX:Int} {aG aO:Int} {aA:Bool} {bT bV bU:Int} {aB:List Slot} {aD aC:List Int} {aZ:Int} {aT:List Int} {bA:Int} {aU:List Int} {aL:Int} {aE:List Thread} {aK:List Entry} {id:Int} (h1:aB.length≤100000000) (h2:aD.length≤100000000) (h3:aC.length≤100000000) (h4:aT.length≤100000000) (h5:aU.length≤100000000) (h6:aE.length≤100000000) (h7:aK.length≤100000000):cX D9 239 [.agg [.int .i64 aW,.int .i64 aV,.int .i64 aN,.int .i64 aX,.int .i64 aG,.int .i64 aO,.bool aA,.int .i64 bT,.int .i64 bV,.int .i64 bU,.slv 2 (aB.map cU),.slv 1 (aD.map aS),.slv 1 (aC.map aS),.int .i64 aZ,.slv 1 (aT.map aS),.int .i64 bA,.slv 1 (aU.map aS),.int .i64 aL,.slv 11 (aE.map bH),.slv 5 (aK.map cO)],.int .i64 id] (.bool (Hh (State.mk (Config.mk aW aV aN aX aG aO aA) (Word.mk bT bV bU) aB aD aC (D8 aZ aT) (D8 bA aU) aL aE aK) id),[],[]):=by
  refine aI bP ST (by simp [BZ]) fun hw _=>?_
  clear hw
  repeat' with_reducible first|refine aQ (fun h=>?_) (fun h=>?_)|refine bB (fun h=>?_) (fun h=>?_)|refine aF (fun h=>?_) (fun h=>?_)|refine aH (fun h=>?_) (fun h=>?_)|refine bJ ?_ ?_ ?_ ?_|refine aR ?_ ?_|refine bC ?_ ?_|refine bM ?_ ?_|refine P0 (iT ?_ ?_ ?_ ?_ ?_ ?_ ?_) ?_ ?_ ?_|refine eK (d:=default) ?_ ?_|refine L1 ?_ ?_|refine L2 ?_ ?_|refine L3 ?_ ?_ ?_ ?_|refine L4 ?_ ?_|refine L5 ?_ ?_ ?_ ?_ ?_|refine L6 ?_ ?_ ?_ ?_ ?_|refine P0 (Lc) ?_ ?_ ?_|refine F3 (Lc) ?_ ?_ ?_|refine F8 (Lc) ?_ ?_|simp -implicitDefEqProofs only [BZ,qA,bN,bD,bO,aJ,aP,qU,D2,D5,D6,D4,D1,D7,reduceIte,reduceCtorEq,qI,E3,E2,bH,E1, *]
  all_goals first
    | omega
    | (simp at *; omega)
    | grind [Hh,cN,me]
    | (simp only [Hh,cN,me]; simp_all; done)
    | (simp only [Hh,cN,me]; simp_all; omega)
    | skip

def DC:AFn:=⟨8,(.seq (.reg [o1 2 (.mv (ci 0))]) (.seq (.seq (.reg [o1 3 (.mv 0)]) (.block 0 (.seq (.reg [o1 5 (.bin .eql 3 (ci 7)),o1 4 (.mv 5)]) (.cond 4 (.seq (.reg [o1 2 (.mv (ci 1))]) .ret) (.seq (.reg [o1 7 (.bin .eql 3 (ci 8)),o1 6 (.mv 7)]) (.cond 6 (.seq (.reg [o1 2 (.mv (ci 2))]) .ret) .skip)))))) (.seq (.reg [o1 2 (.mv (ci 0))]) .ret))),[(2,none)]⟩
theorem TV:xf D9 278=some DC:=by kernel_rfl
theorem Le {k:Int}  : cX D9 278 [.int .i64 k] ((.int .i64 (Ui k)),[],[]):=by
  refine aI bP TV (by simp [DC]) fun hw _=>?_
  simp only [iS,AV.wf,aY] at hw
  repeat' with_reducible first|refine aQ (fun h=>?_) (fun h=>?_)|refine bB (fun h=>?_) (fun h=>?_)|refine aF (fun h=>?_) (fun h=>?_)|refine aH (fun h=>?_) (fun h=>?_)|refine bJ ?_ ?_ ?_ ?_|refine aR ?_ ?_|refine bC ?_ ?_|refine bM ?_ ?_|simp -implicitDefEqProofs only [DC,qA,cS,cW,aJ,aP,qU,D2,D5,D6,D4,D1,D7,reduceIte,reduceCtorEq, *]
  all_goals first
    | (simp; done)
    | exact bE
    | exact bE.symm
    | grind [aY,bL,bI,Ui]

def Qe:AFn:=⟨13,(.seq (.reg [o1 2 (.mv (.const .nilp))]) (.seq (.regT [o1 3 (.mv 0),o1 4 (.nilchk 3),o1 5 (.faddr 0 4),o1 6 (.faddr 18 5),o1 7 (.ld 1 false 6),o1 8 (.mv 0),o1 9 (.nilchk 8),o1 10 (.faddr 20 9),o1 11 (.ld 1 false 10),o1 12 (.iaddr 11 7 11),o1 2 (.mv 12)] [(1,6),(2,6),(3,6),(4,6),(1,7),(2,7),(3,7),(4,7),(1,8),(2,8),(3,8),(4,8)]) .ret)),[(2,none)]⟩
theorem HJ:xf D9 240=some Qe:=by kernel_rfl
theorem Yc:Qe.code.lf=true:=rfl
def CA:AFn:=⟨37,(.seq (.reg [o1 3 (.mv 0),o1 4 (.call 240 [3]),o1 5 (.nilchk 4),o1 6 (.faddr 1 5),o1 7 (.ld 1 false 6),o1 2 (.mv 7)]) (.seq (.regT [o1 8 (.mv 0),o1 9 (.mv 0),o1 10 (.nilchk 9),o1 11 (.faddr 0 10),o1 12 (.faddr 7 11),o1 13 (.ld 3 true 12),o1 14 (.mv 2),o1 15 (.call 278 [14]),o1 16 (.call 277 [13,15]),o1 17 (.nilchk 8),o1 18 (.faddr 0 17),o1 19 (.faddr 7 18),o2 (.st 3 19 16)] [(2,7),(3,7),(4,7),(5,7)]) (.seq (.regT [o1 20 (.mv 0),o1 21 (.mv 0),o1 22 (.nilchk 21),o1 23 (.faddr 0 22),o1 24 (.ld 20 true 23),o1 25 (.mv 0),o1 26 (.nilchk 25),o1 27 (.faddr 20 26),o1 28 (.ld 1 false 27),o1 29 (.mv 2),o1 30 (.call 279 [24,28,29,(ci 1),(ci 0)]),o1 31 (.nilchk 20),o1 32 (.faddr 0 31),o2 (.st 20 32 30)] [(2,6),(3,6),(4,6),(2,7),(3,7),(4,7),(2,8),(3,8),(4,8)]) (.reg [o1 33 (.mv 0),o1 34 (.call 240 [33]),o1 35 (.nilchk 34),o1 36 (.faddr 4 35),o2 (.st 1 36 (ci 1))])))),[]⟩
theorem SU:xf D9 241=some CA:=by kernel_rfl
theorem PL:CA.code.lf=true:=rfl
def uD:AFn:=⟨34,(.seq (.reg [o1 9 (.mv 1),o1 10 (.nilchk 9),o1 11 (.ld 2 true 10),o1 12 (.call 280 [11]),o1 8 (.mv 12),o1 13 (.ext 8 0),o1 14 (.ext 8 1),o1 4 (.alloc 29 [(.int .i64 0),.slnil]),o2 (.st 2 4 13),o1 5 (.mv 14)]) (.seq (.reg [o1 15 (.mv 1),o1 16 (.ld 2 true 4),o1 17 (.nilchk 15),o2 (.st 2 17 16)]) (.seq (.reg [o1 18 (.mv 5),o1 19 (.len 18),o1 20 (.mv (ci 0))]) (.block 0 (.loop (.seq (.reg [o1 21 (.bin .lss 20 19)]) (.seq (.cond 21 .skip (.exit 0)) (.seq (.block 1 (.seq (.reg [o1 22 (.iaddr 1 18 20),o1 23 (.ld 1 false 22),o1 7 (.mv 23)]) (.reg [o1 24 (.mv 0),o1 25 (.mv 0),o1 26 (.nilchk 25),o1 27 (.faddr 0 26),o1 28 (.ld 20 true 27),o1 29 (.mv 7),o1 30 (.call 41 [28,29]),o1 31 (.nilchk 24),o1 32 (.faddr 0 31),o2 (.st 20 32 30)]))) (.reg [o1 33 (.bin .add 20 (ci 1)),o1 20 (.mv 33)]))))))))),[]⟩
theorem AD:xf D9 242=some uD:=by kernel_rfl
def Dg:AFn:=⟨61,(.seq (.reg [o1 2 (.box 33 0),o1 4 (.alloc 33 [(.int .i64 0),(.int .i64 0),(.int .i64 0),(.int .i64 0),(.int .i64 0),(.int .i64 0),(.bool false),(.int .i64 0),(.int .i64 0),(.int .i64 0),.slnil,.slnil,.slnil,(.int .i64 0),.slnil,(.int .i64 0),.slnil,(.int .i64 0),.slnil,.slnil])]) (.seq (.reg [o1 6 (.ld 20 true 2),o1 7 (.call 41 [6,(ci (-1))]),o1 8 (.mv 1),o1 9 (.build [(.int .i64 0),(.int .i64 0),(.int .i64 0),(.int .i64 0),(.int .i64 0),(.int .i64 0),(.bool false),(.int .i64 0),(.int .i64 0),(.int .i64 0),.slnil,.slnil,.slnil,(.int .i64 0),.slnil,(.int .i64 0),.slnil,(.int .i64 0),.slnil,.slnil,(.int .i64 0)] [(0,20,7),(20,1,8)]),o1 10 (.box 231 9),o1 5 (.mv 10)]) (.seq (.seq (.reg [o1 11 (.ld 20 true 2),o1 12 (.mv 1),o1 13 (.call 239 [11,12]),o1 14 (.not 13)]) (.cond 14 (.seq (.reg [o1 15 (.mv 5),o1 16 (.nilchk 15),o1 17 (.faddr 0 16),o1 18 (.ld 20 true 17),o2 (.st 20 4 18)]) .ret) .skip)) (.seq (.seq (.reg [o1 19 (.mv 5),o1 20 (.call 240 [19]),o1 21 (.nilchk 20),o1 22 (.faddr 4 21),o1 23 (.ld 1 false 22)]) (.block 0 (.seq (.reg [o1 42 (.bin .eql 23 (ci 0)),o1 41 (.mv 42)]) (.cond 41 (.reg [o1 43 (.mv 5),o1 44 (.call 241 [43])]) (.seq (.reg [o1 46 (.bin .eql 23 (ci 1)),o1 45 (.mv 46)]) (.cond 45 (.seq (.reg [o1 47 (.mv 5),o1 48 (.mv 5),o1 49 (.nilchk 48),o1 50 (.faddr 0 49),o1 51 (.faddr 13 50),o1 52 (.call 242 [47,51])]) (.reg [o1 53 (.mv 5),o1 54 (.call 240 [53]),o1 55 (.nilchk 54),o1 56 (.faddr 4 55),o2 (.st 1 56 (ci 2))])) (.seq (.reg [o1 24 (.mv 5),o1 25 (.mv 5),o1 26 (.nilchk 25),o1 27 (.faddr 0 26),o1 28 (.faddr 15 27),o1 29 (.call 242 [24,28])]) (.reg [o1 31 (.mv 5),o1 32 (.call 240 [31]),o1 33 (.mv 5),o1 34 (.call 240 [33]),o1 35 (.nilchk 34),o1 36 (.ld 11 true 35),o1 37 (.call 243 [36]),o1 30 (.mv 37),o1 38 (.ext 30 0),o1 39 (.ext 30 1),o1 40 (.nilchk 32),o2 (.st 11 40 38)])))))))) (.seq (.reg [o1 57 (.mv 5),o1 58 (.nilchk 57),o1 59 (.faddr 0 58),o1 60 (.ld 20 true 59),o2 (.st 20 4 60)]) .ret))))),[(4,some (20,true))]⟩
theorem AB:xf D9 191=some Dg:=by kernel_rfl
theorem DQ {s:State} {id:Int} (h:Hh s id=true):cN s id=true:=by
  simp only [Hh,Bool.and_eq_true] at h; exact h.1.1
theorem Im {c:Config} {w0 w:Word} {sl:List Slot} {a b:List Int} {f e:Event} {n:Int} {th:List Thread} {lg:List Entry} {id:Int} (h:Hh ⟨c,w0,sl,a,b,f,e,n,th,lg⟩ id=true) (hw:cT w0 sl.length=true→cT w sl.length=true):cN ⟨c,⟨w.h,w.t,w.m⟩,sl,a,b,f,e,n,th,lg⟩ id=true:=uX (s:=⟨c,w0,sl,a,b,f,e,n,th,lg⟩) (DQ h) hw
theorem Vj {aW aV:Int} {aN aX:Int} {aG aO:Int} {aA:Bool} {bT bV bU:Int} {aB:List Slot} {aD aC:List Int} {aZ:Int} {aT:List Int} {bA:Int} {aU:List Int} {aL:Int} {aE:List Thread} {aK:List Entry} {id:Int} (h1:aB.length≤100000000) (h2:aD.length≤100000000) (h3:aC.length≤100000000) (h4:aT.length≤100000000) (h5:aU.length≤100000000) (h6:aE.length≤100000000) (h7:aK.length≤100000000) (hI:Hh (State.mk (Config.mk aW aV aN aX aG aO aA) (Word.mk bT bV bU) aB aD aC (D8 aZ aT) (D8 bA aU) aL aE aK) id=true) (hpc:(aE.getD id.toNat default).pc=0):cX D9 191 [.agg [.int .i64 aW,.int .i64 aV,.int .i64 aN,.int .i64 aX,.int .i64 aG,.int .i64 aO,.bool aA,.int .i64 bT,.int .i64 bV,.int .i64 bU,.slv 2 (aB.map cU),.slv 1 (aD.map aS),.slv 1 (aC.map aS),.int .i64 aZ,.slv 1 (aT.map aS),.int .i64 bA,.slv 1 (aU.map aS),.int .i64 aL,.slv 11 (aE.map bH),.slv 5 (aK.map cO)],.int .i64 id] (.agg (bR (Hs (State.mk (Config.mk aW aV aN aX aG aO aA) (Word.mk bT bV bU) aB aD aC (D8 aZ aT) (D8 bA aU) aL aE aK) id)),[],[]):=by
  have hI':=hI
  simp only [Hh,cN,Bool.and_eq_true,decide_eq_true_eq] at hI'
  obtain ⟨⟨⟨⟨hchk,hge⟩,hlt⟩,hruns⟩,hside⟩:=hI'
  have hid:id.toNat<aE.length:=by omega
  have hne:aE≠[]:=by intro h; subst h; simp at hlt; omega
  refine aI bP AB (by simp [Dg]) fun hw _=>?_
  clear hw
  repeat' with_reducible first|refine aQ (fun h=>?_) (fun h=>?_)|refine bB (fun h=>?_) (fun h=>?_)|refine aF (fun h=>?_) (fun h=>?_)|refine aH (fun h=>?_) (fun h=>?_)|refine FN ?_ ?_ ?_ ?_ rfl ?_|refine aR ?_ ?_|refine bC ?_ ?_|refine bM ?_ ?_|refine I2 bP SU PL ?_ ?_ ?_ ?_ ?_|refine IA ?_ ?_ ?_|refine L1 ?_ ?_|refine L2 ?_ ?_|refine L3 ?_ ?_ ?_ ?_|refine L4 ?_ ?_|refine L5 ?_ ?_ ?_ ?_ ?_|refine L6 ?_ ?_ ?_ ?_ ?_|refine N1 (gG ?_ ?_ ?_ ?_ ?_ ?_ ?_ hne) ?_ ?_|refine P0 (Fy ?_ ?_ ?_ ?_ ?_ ?_ ?_) ?_ ?_ ?_|refine I3 bP HJ Yc ?_ ?_ ?_ ?_ ?_|refine dE ?_ ?_ ?_ ?_|refine GN 279 ?_ ?_ ?_|refine ACN.of (oI ?_ ?_ ?_ ?_ ?_ ?_ ?_ ?_) ?_|refine P0 (Ld) ?_ ?_ ?_|refine F3 (Ld) ?_ ?_ ?_|refine F8 (Ld) ?_ ?_|refine P0 (Le) ?_ ?_ ?_|refine F3 (Le) ?_ ?_ ?_|refine F8 (Le) ?_ ?_|simp -implicitDefEqProofs only [Dg,qA,bN,bD,bO,aJ,aP,qU,D2,D5,D6,D4,D1,D7,reduceIte,reduceCtorEq,qI,E3,E2,CA,cL,E1,bH,dM,dO,iA,hpc,hI,Int.reduceToNat,Nat.mul_one,cE,cG,Int.reduceLE,Int.reduceLT,F5,F6,Int.toNat_zero,Int.toNat_one,Int.le_refl,set_set,bG,Qe, *]
  all_goals first
    | omega
    | (constructor <;> omega)
    | exact G4 _
    | (with_reducible refine Im hI ?_
       exact fun h=>Ke h)
    | (simp only [Hh,Bool.and_eq_true] at hI; with_reducible exact hI.1.1)
    | (refine Wk.of_eq ?_
       have htr:=eU hchk hge hlt
       try simp only [decide_eq_true_eq,decide_eq_false_iff_not,Bool.not_eq_true] at *
       unfold Hs
       try simp only [me] at *
       have hw:=cV htr
       clear hchk hI hside hruns htr
       try simp only [*,reduceIte,if_true,if_false,Bool.false_eq_true,and_true,true_and,and_false,false_and,and_self,not_true_eq_false,not_false_eq_true,ne_eq,F5,F6]
       try rw [F4 (by simp [cE,cG])]
       simp only [bR,dM,dO,lA,cK,cR,eJ,cQ,cH,vJ,kN,fZ,gE,iE,fB,eP,dD,dU,me,bG,set_set,List.length_set,hD,fQ,eT,eS,eR,fP,eQ,hG,gR,fH,eF,eE,eD,fG,eC,gU,gS,hP hpc, *]
       done)
    | skip

end Go.Sak
