/- Part T73 of the proofs about the program: K80, K81. Conditions: none. -/
import Derived.Test.YtahdilehajdhgaaGreatT22
import Derived.Test.YtahdilehajdhgaaGreatT41
import Derived.Test.YtahdilehajdhgaaGreatT47
open Go.Sak.ACK renaming of→F7
open Go.Sak.ACV renaming of→F2
open Go.Sak.Event renaming mk→D7
open Int renaming natCast_one→P6,natCast_zero→F1,reduceEq→F4,reduceNe→F5,toNat_natCast→E0
open List renaming append_nil→N3,cons_append→M9,drop_zero→W9,eq_nil_of_length_eq_zero→K0,getD_eq_getElem?_getD→E6,length_drop→T5,length_map→G7,length_take→N5,map_append→J5,nil_append→I9,reduceReplicate→D1,take_length→N6,take_of_length_le→F3
open Nat renaming le_refl→G1,reduceAdd→D4,reduceBEq→E1,reduceEqDiff→D0,reduceLT→E2,reduceLeDiff→D3,reduceMul→D6,reduceSub→D5
open Go.Proofs.Tryz renaming prog→D8
open Go.Sak.Wk renaming nil→P5,refl→G3,tup→V2
namespace Go.Sak
open Go Go.RowKit Go.Proofs
set_option linter.unusedVariables false
set_option linter.unusedSimpArgs false
set_option maxRecDepth 10000
set_option maxHeartbeats 8000000
def Fm:AFn:=⟨3,(.seq (.reg [o1 2 (.mv (.const (.bool false)))]) (.seq (.reg [o1 2 (.mv (.const (.bool true)))]) .ret)),[(2,none)]⟩
theorem Mi:xf D8 290=some Fm:=by kernel_rfl
theorem Eo:Fm.code.lf=true:=rfl
theorem FR {l:List Int} {k:Nat} (h:gX l=true):gX (l.drop k)=true:=Cc h (List.drop_sublist k l)
theorem Si {l:List Int} {k:Nat} (h:gX l=true) (hk:k<l.length):pM (l.drop k)=(l.getD k default,l.drop (k+1),true):=by
  unfold pM
  rw [if_neg (by simp only [FR h,T5]; simp; omega)]
  refine Prod.ext (by simp [E6]) (Prod.ext (by simp [Nat.add_comm]) rfl)
theorem Yo {l:List Int} {k:Nat} (h:gX l=true) (hk:k=l.length):pM (l.drop k)=(0,[],false):=by
  unfold pM; rw [if_pos (.inr (by simp [hk])),hk,List.drop_length]
theorem Zi {l:List Int} {k:Nat} (hk:k<l.length):l.take (k+1)=l.take k ++ [l.getD k default]:=by
  rw [List.take_succ_eq_append_getElem hk]; simp [E6,hk]
theorem EB {fF : Int} {eH:List Int} (hl:eH.length≤100000000):cX D8 284 [.agg [.int .i64 fF,.slv 1 (eH.map aS)],.fn (.func 290) [] []] (.tup [.agg (dO (dH ⟨fF,eH⟩).1),.slv 1 ((dH ⟨fF,eH⟩).2.map aS)],[],[]):=by
  by_cases hv:eZ ⟨fF,eH⟩=true
  · have hc : gX eH=true:=Ej hv
    have hb:0≤fF∧fF≤1099511627776:=by simp [eZ] at hv; omega
    have hmin:(if 1099511627776<IntKind.wrap .i64 (fF+1) then (1099511627776:Int) else IntKind.wrap .i64 (fF+1))=min (fF+1) 1099511627776:=by
      rw [bL (by omega) (by omega)]; split <;> omega
    rw [show dH ⟨fF,eH⟩=(⟨min (fF+1) 1099511627776,[]⟩,eH) from by simp [dH,hv]]
    generalize min (fF+1) 1099511627776=ep at hmin ⊢
    refine aI bP Tk (by simp [uD]) fun hw _=>?_
    clear hw
    repeat' with_reducible first|refine aQ (fun h=>?_) (fun h=>?_)|refine bB (fun h=>?_) (fun h=>?_)|refine aF (fun h=>?_) (fun h=>?_)|refine aH (fun h=>?_) (fun h=>?_)|refine FN ?_ ?_ ?_ ?_ rfl ?_|refine aR ?_ ?_|refine bC ?_ ?_|refine bM ?_ ?_|refine I2 bP Mi Eo ?_ ?_ ?_ ?_ ?_|refine I2 bP Ds wX ?_ ?_ ?_ ?_ ?_|refine IA ?_ ?_ ?_|refine L1 ?_ ?_|refine L2 ?_ ?_|refine L3 ?_ ?_ ?_ ?_|refine L4 ?_ ?_|refine L5 ?_ ?_ ?_ ?_ ?_|refine L6 ?_ ?_ ?_ ?_ ?_|refine P0 (fT ?_) ?_ ?_ ?_|refine F2 (fT ?_) ?_ ?_ ?_|refine F7 (fT ?_) ?_ ?_|refine P0 (gU ?_) ?_ ?_ ?_|refine F2 (gU ?_) ?_ ?_ ?_|refine F7 (gU ?_) ?_ ?_|refine P0 (gE ?_) ?_ ?_ ?_|refine F2 (gE ?_) ?_ ?_ ?_|refine F7 (gE ?_) ?_ ?_|simp -implicitDefEqProofs only [uD,qA,bN,bD,bO,aJ,aP,qU,D1,D4,D5,D3,D0,D6,reduceIte,reduceCtorEq,qI,E2,E1,Fm,zT,cL,E0,bH,dO,eW,bY,dC,bS,cJ,cY,F1,P6,F4,F5, *]
    all_goals first
      | omega
      | refine oN 8 (fun k:Nat=>nl 1 (some (.fn (.func 290) [] []) :: nl 2 (some (.ptr 2 0 0) :: nl 1 (some (.ptr 3 0 0) :: some (if k=0 then .slnil else .slm 4 k) :: some (.fn (.func 296) [.ptr 3 0 0] []) :: nl 36 [])))) (fun k=>[(2,.rows 29 2 [[.int .i64 0,.slnil]]),(3,.rows 247 2 [[.int .i64 ep,.slv 1 ((eH.drop k).map aS)]])] ++ (if k=0 then [] else [(4,.rows 3 1 ((eH.take k).map aS))])) (fun k=>k≤eH.length) (fun k=>eH.length+1 - k) [] [(17,2),(97,3)] 0 (by omega) ?_ ?_ ?_ ?_ ?_ ?_
      | skip
    rotate_right
    · intro k hk
      simp only [dL,dK,all_nil,dI,dJ]
      intros
      rcases Nat.lt_or_eq_of_le hk with hlt | heq
      · have hN := Si hc hlt
        have hT:=Zi hlt
        by_cases h0:k=0
        · subst h0
          simp only [W9,List.take_zero,I9,Nat.zero_add] at hN hT
          simp -implicitDefEqProofs only [if_true,N3]
          repeat' with_reducible first|refine aQ (fun h=>?_) (fun h=>?_)|refine bB (fun h=>?_) (fun h=>?_)|refine aF (fun h=>?_) (fun h=>?_)|refine aH (fun h=>?_) (fun h=>?_)|refine FN ?_ ?_ ?_ ?_ rfl ?_|refine aR ?_ ?_|refine bC ?_ ?_|refine bM ?_ ?_|refine I2 bP Mi Eo ?_ ?_ ?_ ?_ ?_|refine I2 bP Ds wX ?_ ?_ ?_ ?_ ?_|refine IA ?_ ?_ ?_|refine L1 ?_ ?_|refine L2 ?_ ?_|refine L3 ?_ ?_ ?_ ?_|refine L4 ?_ ?_|refine L5 ?_ ?_ ?_ ?_ ?_|refine L6 ?_ ?_ ?_ ?_ ?_|refine jJ (eL _ _ _ _ _ _ (by simp -implicitDefEqProofs only [m_get,D0,reduceIte,if_true,if_false]; first|done|exact rfl) ?_) ?_ ?_ ?_ ?_|refine eM (eL _ _ _ _ _ _ (by simp -implicitDefEqProofs only [m_get,D0,reduceIte,if_true,if_false]; first|done|exact rfl) ?_) (by simp -implicitDefEqProofs only [m_get,D0,reduceIte,if_true,if_false]; first|done|exact rfl) ?_ ?_ ?_ ?_|refine gV [] [(2,2),(3,3),(264,4)] 1 ?_ ?_ ?_ ?_ ?_ ?_|refine P0 (fT ?_) ?_ ?_ ?_|refine F2 (fT ?_) ?_ ?_ ?_|refine F7 (fT ?_) ?_ ?_|refine P0 (gU ?_) ?_ ?_ ?_|refine F2 (gU ?_) ?_ ?_ ?_|refine F7 (gU ?_) ?_ ?_|refine P0 (gE ?_) ?_ ?_ ?_|refine F2 (gE ?_) ?_ ?_ ?_|refine F7 (gE ?_) ?_ ?_|simp -implicitDefEqProofs only [uD,qA,bN,bD,bO,aJ,aP,qU,D1,D4,D5,D3,D0,D6,reduceIte,reduceCtorEq,qI,E2,E1,Fm,zT,cL,E0,bH,dO,eW,bY,dC,bS,cJ,cY,F1,P6,F4,F5, *]
          all_goals first
            | omega
            | (simp only [N5,T5]; omega)
            | (rw [J5]; rfl)
            | (rw [hT]; simp [aS]; done)
            | (simp [hT,aS]; omega)
            | (simp [aS,E6,hlt]; done)
            | exact G3 _
            | (rw [F3 (by simp)]; exact G3 _)
            | (obtain rfl:eH=[]:=K0 hg
               exact V2 ⟨G3 _,id,P5 _,id,trivial⟩)
            | (obtain rfl:k=eH.length:=hg
               simp only [N6,G7,G1,if_true]
               try rw [F3 (by simp)]
               exact G3 _)
            | skip
        · simp -implicitDefEqProofs only [if_neg h0,M9,I9]
          repeat' with_reducible first|refine aQ (fun h=>?_) (fun h=>?_)|refine bB (fun h=>?_) (fun h=>?_)|refine aF (fun h=>?_) (fun h=>?_)|refine aH (fun h=>?_) (fun h=>?_)|refine FN ?_ ?_ ?_ ?_ rfl ?_|refine aR ?_ ?_|refine bC ?_ ?_|refine bM ?_ ?_|refine I2 bP Mi Eo ?_ ?_ ?_ ?_ ?_|refine I2 bP Ds wX ?_ ?_ ?_ ?_ ?_|refine IA ?_ ?_ ?_|refine L1 ?_ ?_|refine L2 ?_ ?_|refine L3 ?_ ?_ ?_ ?_|refine L4 ?_ ?_|refine L5 ?_ ?_ ?_ ?_ ?_|refine L6 ?_ ?_ ?_ ?_ ?_|refine jJ (eL _ _ _ _ _ _ (by simp -implicitDefEqProofs only [m_get,D0,reduceIte,if_true,if_false]; first|done|exact rfl) ?_) ?_ ?_ ?_ ?_|refine eM (eL _ _ _ _ _ _ (by simp -implicitDefEqProofs only [m_get,D0,reduceIte,if_true,if_false]; first|done|exact rfl) ?_) (by simp -implicitDefEqProofs only [m_get,D0,reduceIte,if_true,if_false]; first|done|exact rfl) ?_ ?_ ?_ ?_|refine gV [] [(2,2),(3,3),(264,4)] (k+1) ?_ ?_ ?_ ?_ ?_ ?_|refine P0 (fT ?_) ?_ ?_ ?_|refine F2 (fT ?_) ?_ ?_ ?_|refine F7 (fT ?_) ?_ ?_|refine P0 (gU ?_) ?_ ?_ ?_|refine F2 (gU ?_) ?_ ?_ ?_|refine F7 (gU ?_) ?_ ?_|refine P0 (gE ?_) ?_ ?_ ?_|refine F2 (gE ?_) ?_ ?_ ?_|refine F7 (gE ?_) ?_ ?_|simp -implicitDefEqProofs only [uD,qA,bN,bD,bO,aJ,aP,qU,D1,D4,D5,D3,D0,D6,reduceIte,reduceCtorEq,qI,E2,E1,Fm,zT,cL,E0,bH,dO,eW,bY,dC,bS,cJ,cY,F1,P6,F4,F5, *]
          all_goals first
            | omega
            | (simp only [N5,T5]; omega)
            | (rw [J5]; rfl)
            | (rw [hT]; simp [aS]; done)
            | (simp [hT,aS]; omega)
            | (simp [aS,E6,hlt]; done)
            | exact G3 _
            | (rw [F3 (by simp)]; exact G3 _)
            | (obtain rfl:eH=[]:=K0 hg
               exact V2 ⟨G3 _,id,P5 _,id,trivial⟩)
            | (obtain rfl:k=eH.length:=hg
               simp only [N6,G7,G1,if_true]
               try rw [F3 (by simp)]
               exact G3 _)
            | skip
      · have hN := Yo hc heq
        by_cases h0:k=0
        · subst h0
          simp only [W9] at hN
          simp -implicitDefEqProofs only [if_true,N3]
          have hg:id (eH.length=0):=heq.symm
          clear heq hk
          repeat' with_reducible first|refine aQ (fun h=>?_) (fun h=>?_)|refine bB (fun h=>?_) (fun h=>?_)|refine aF (fun h=>?_) (fun h=>?_)|refine aH (fun h=>?_) (fun h=>?_)|refine FN ?_ ?_ ?_ ?_ rfl ?_|refine aR ?_ ?_|refine bC ?_ ?_|refine bM ?_ ?_|refine I2 bP Mi Eo ?_ ?_ ?_ ?_ ?_|refine I2 bP Ds wX ?_ ?_ ?_ ?_ ?_|refine IA ?_ ?_ ?_|refine L1 ?_ ?_|refine L2 ?_ ?_|refine L3 ?_ ?_ ?_ ?_|refine L4 ?_ ?_|refine L5 ?_ ?_ ?_ ?_ ?_|refine L6 ?_ ?_ ?_ ?_ ?_|refine jJ (eL _ _ _ _ _ _ (by simp -implicitDefEqProofs only [m_get,D0,reduceIte,if_true,if_false]; first|done|exact rfl) ?_) ?_ ?_ ?_ ?_|refine eM (eL _ _ _ _ _ _ (by simp -implicitDefEqProofs only [m_get,D0,reduceIte,if_true,if_false]; first|done|exact rfl) ?_) (by simp -implicitDefEqProofs only [m_get,D0,reduceIte,if_true,if_false]; first|done|exact rfl) ?_ ?_ ?_ ?_|refine P0 (fT ?_) ?_ ?_ ?_|refine F2 (fT ?_) ?_ ?_ ?_|refine F7 (fT ?_) ?_ ?_|refine P0 (gU ?_) ?_ ?_ ?_|refine F2 (gU ?_) ?_ ?_ ?_|refine F7 (gU ?_) ?_ ?_|refine P0 (gE ?_) ?_ ?_ ?_|refine F2 (gE ?_) ?_ ?_ ?_|refine F7 (gE ?_) ?_ ?_|simp -implicitDefEqProofs only [uD,qA,bN,bD,bO,aJ,aP,qU,D1,D4,D5,D3,D0,D6,reduceIte,reduceCtorEq,qI,E2,E1,Fm,zT,cL,E0,bH,dO,eW,bY,dC,bS,cJ,cY,F1,P6,F4,F5, *]
          all_goals first
            | omega
            | (simp only [N5,T5]; omega)
            | (rw [J5]; rfl)
            | (rw [hT]; simp [aS]; done)
            | (simp [hT,aS]; omega)
            | (simp [aS,E6,hlt]; done)
            | exact G3 _
            | (rw [F3 (by simp)]; exact G3 _)
            | (obtain rfl:eH=[]:=K0 hg
               exact V2 ⟨G3 _,id,P5 _,id,trivial⟩)
            | (obtain rfl:k=eH.length:=hg
               simp only [N6,G7,G1,if_true]
               try rw [F3 (by simp)]
               exact G3 _)
            | skip
        · simp -implicitDefEqProofs only [if_neg h0,M9,I9]
          have hg:id (k=eH.length):=heq
          clear heq
          repeat' with_reducible first|refine aQ (fun h=>?_) (fun h=>?_)|refine bB (fun h=>?_) (fun h=>?_)|refine aF (fun h=>?_) (fun h=>?_)|refine aH (fun h=>?_) (fun h=>?_)|refine FN ?_ ?_ ?_ ?_ rfl ?_|refine aR ?_ ?_|refine bC ?_ ?_|refine bM ?_ ?_|refine I2 bP Mi Eo ?_ ?_ ?_ ?_ ?_|refine I2 bP Ds wX ?_ ?_ ?_ ?_ ?_|refine IA ?_ ?_ ?_|refine L1 ?_ ?_|refine L2 ?_ ?_|refine L3 ?_ ?_ ?_ ?_|refine L4 ?_ ?_|refine L5 ?_ ?_ ?_ ?_ ?_|refine L6 ?_ ?_ ?_ ?_ ?_|refine jJ (eL _ _ _ _ _ _ (by simp -implicitDefEqProofs only [m_get,D0,reduceIte,if_true,if_false]; first|done|exact rfl) ?_) ?_ ?_ ?_ ?_|refine eM (eL _ _ _ _ _ _ (by simp -implicitDefEqProofs only [m_get,D0,reduceIte,if_true,if_false]; first|done|exact rfl) ?_) (by simp -implicitDefEqProofs only [m_get,D0,reduceIte,if_true,if_false]; first|done|exact rfl) ?_ ?_ ?_ ?_|refine P0 (fT ?_) ?_ ?_ ?_|refine F2 (fT ?_) ?_ ?_ ?_|refine F7 (fT ?_) ?_ ?_|refine P0 (gU ?_) ?_ ?_ ?_|refine F2 (gU ?_) ?_ ?_ ?_|refine F7 (gU ?_) ?_ ?_|refine P0 (gE ?_) ?_ ?_ ?_|refine F2 (gE ?_) ?_ ?_ ?_|refine F7 (gE ?_) ?_ ?_|simp -implicitDefEqProofs only [uD,qA,bN,bD,bO,aJ,aP,qU,D1,D4,D5,D3,D0,D6,reduceIte,reduceCtorEq,qI,E2,E1,Fm,zT,cL,E0,bH,dO,eW,bY,dC,bS,cJ,cY,F1,P6,F4,F5, *]
          all_goals first
            | omega
            | (simp only [N5,T5]; omega)
            | (rw [J5]; rfl)
            | (rw [hT]; simp [aS]; done)
            | (simp [hT,aS]; omega)
            | (simp [aS,E6,hlt]; done)
            | exact G3 _
            | (rw [F3 (by simp)]; exact G3 _)
            | (obtain rfl:eH=[]:=K0 hg
               exact V2 ⟨G3 _,id,P5 _,id,trivial⟩)
            | (obtain rfl:k=eH.length:=hg
               simp only [N6,G7,G1,if_true]
               try rw [F3 (by simp)]
               exact G3 _)
            | skip
    all_goals first
      | omega
      | (simp -implicitDefEqProofs only [qA,bN,bD,bO,aJ,aP,qU,D1,D4,D5,D3,D0,D6,reduceIte,reduceCtorEq,qI,E2,E1,qZ,dI,dJ]; first | done | (simp; done))
      | skip
  · have hv':eZ ⟨fF,eH⟩=false:=by simpa using hv
    rw [show dH ⟨fF,eH⟩=(⟨fF,eH⟩,[]) from by simp [dH,hv]]
    refine aI bP Tk (by simp [uD]) fun hw _=>?_
    clear hw
    repeat' with_reducible first|refine aQ (fun h=>?_) (fun h=>?_)|refine bB (fun h=>?_) (fun h=>?_)|refine aF (fun h=>?_) (fun h=>?_)|refine aH (fun h=>?_) (fun h=>?_)|refine FN ?_ ?_ ?_ ?_ rfl ?_|refine aR ?_ ?_|refine bC ?_ ?_|refine bM ?_ ?_|refine I2 bP Mi Eo ?_ ?_ ?_ ?_ ?_|refine I2 bP Ds wX ?_ ?_ ?_ ?_ ?_|refine IA ?_ ?_ ?_|refine L1 ?_ ?_|refine L2 ?_ ?_|refine L3 ?_ ?_ ?_ ?_|refine L4 ?_ ?_|refine L5 ?_ ?_ ?_ ?_ ?_|refine L6 ?_ ?_ ?_ ?_ ?_|refine P0 (fT ?_) ?_ ?_ ?_|refine F2 (fT ?_) ?_ ?_ ?_|refine F7 (fT ?_) ?_ ?_|refine P0 (gU ?_) ?_ ?_ ?_|refine F2 (gU ?_) ?_ ?_ ?_|refine F7 (gU ?_) ?_ ?_|refine P0 (gE ?_) ?_ ?_ ?_|refine F2 (gE ?_) ?_ ?_ ?_|refine F7 (gE ?_) ?_ ?_|simp -implicitDefEqProofs only [uD,qA,bN,bD,bO,aJ,aP,qU,D1,D4,D5,D3,D0,D6,reduceIte,reduceCtorEq,qI,E2,E1,Fm,zT,cL,E0,bH,dO,eW,bY,dC,bS,cJ,cY,F1,P6,F4,F5, *]
    all_goals first
      | omega
      | (simp at hl ⊢; omega)
      | exact V2 ⟨G3 _,id,P5 _,id,trivial⟩
      | skip

def DC:AFn:=⟨8,(.seq (.reg [o1 1 (.box 29 0),o1 2 (.alloc 29 [(.int .i64 0),.slnil]),o1 3 (.mv (.const .slnil))]) (.seq (.reg [o1 4 (.ld 2 true 1),o1 5 (.call 284 [4,(.func 290)]),o1 6 (.ext 5 0),o1 7 (.ext 5 1),o2 (.st 2 2 6),o1 3 (.mv 7)]) .ret)),[(2,some (2,true)),(3,none)]⟩
theorem TV:xf D8 280=some DC:=by kernel_rfl
theorem Fy {fF:Int} {eH:List Int} (hl:eH.length≤100000000):cX D8 280 [.agg [.int .i64 fF,.slv 1 (eH.map aS)]] ((.tup [.agg (dO ((dH (D7 fF eH)).1)),.slv 1 (((dH (D7 fF eH)).2).map aS)]),[],[]):=by
  refine aI bP TV (by simp [DC]) fun hw _=>?_
  simp only [iR,AV.wf,aY] at hw
  repeat' with_reducible first|refine aQ (fun h=>?_) (fun h=>?_)|refine bB (fun h=>?_) (fun h=>?_)|refine aF (fun h=>?_) (fun h=>?_)|refine aH (fun h=>?_) (fun h=>?_)|refine bJ ?_ ?_ ?_ ?_|refine aR ?_ ?_|refine bC ?_ ?_|refine bM ?_ ?_|refine P0 (EB ?_) ?_ ?_ ?_|simp -implicitDefEqProofs only [DC,qA,cS,cW,aJ,aP,qU,D1,D4,D5,D3,D0,D6,reduceIte,reduceCtorEq,dO,len_slv,G7, *]
  all_goals first
    | (simp; done)
    | exact bE
    | exact bE.symm
    | grind [aY,bL,bI]

set_option maxHeartbeats 8000000
def BY:AFn:=⟨28,(.seq (.reg [o1 2 (.box 33 0),o1 4 (.mv (.const (.bool false)))]) (.seq (.reg [o1 5 (.mv (.func 276))]) (.seq (.reg [o1 6 (.ld 20 true 2),o1 7 (.call 18 [6]),o1 8 (.mv 7),o3 9 (.mv 1) 8,o3 10 (.bin .geq 9 (ci 0)) 8,o1 11 (.pick 8 10 (.const (.bool false))),o1 12 (.mv 11),o3 13 (.mv 1) 12,o3 14 (.faddr 18 2) 12,o3 15 (.ld 1 false 14) 12,o3 16 (.len 15) 12,o3 17 (.bin .lss 13 16) 12,o1 18 (.pick 12 17 (.const (.bool false))),o1 19 (.mv 18),o3 20 (.mv 5) 19,o3 21 (.faddr 18 2) 19,o3 22 (.ld 1 false 21) 19,o3 23 (.mv 1) 19,o3 24 (.iaddr 11 22 23) 19,o3 25 (.ld 11 true 24) 19,o3 26 (.callv 20 [25]) 19,o1 27 (.pick 19 26 (.const (.bool false))),o1 4 (.mv 27)]) .ret))),[(4,none)]⟩
theorem SS:xf D8 239=some BY:=by kernel_rfl
def CZ:AFn:=⟨12,(.seq (.reg [o1 1 (.box 42 0),o1 2 (.mv (.const (.bool false)))]) (.seq (.reg [o1 3 (.ld 11 true 1),o1 4 (.call 124 [3]),o1 5 (.bin .eql 4 (ci 0)),o1 6 (.mv 5),o3 7 (.faddr 1 1) 6,o3 8 (.ld 1 false 7) 6,o3 9 (.call 75 [8]) 6,o3 10 (.bin .eql 9 (ci 3)) 6,o1 11 (.pick 6 10 (.const (.bool false))),o1 2 (.mv 11)]) .ret)),[(2,none)]⟩
theorem TR:xf D8 276=some CZ:=by kernel_rfl
theorem Lb {jC dX:Int} {fX eA:Int} {jB fV:Int} {dZ dF:Int} {dY:Bool} {fW fU:Int}  : cX D8 276 [.agg [.int .i64 jC,.int .i64 dX,.int .i64 fX,.int .i64 eA,.int .i64 jB,.int .i64 fV,.int .i64 dZ,.int .i64 dF,.bool dY,.int .i64 fW,.int .i64 fU]] ((.bool ((decide (kB (Thread.mk jC dX fX eA jB fV dZ dF dY fW fU)=0) && decide (kJ ((Thread.mk jC dX fX eA jB fV dZ dF dY fW fU)).kind=3)))),[],[]):=by
  refine aI bP TR (by simp [CZ]) fun hw _=>?_
  simp only [iR,AV.wf,aY] at hw
  repeat' with_reducible first|refine aQ (fun h=>?_) (fun h=>?_)|refine bB (fun h=>?_) (fun h=>?_)|refine aF (fun h=>?_) (fun h=>?_)|refine aH (fun h=>?_) (fun h=>?_)|refine bJ ?_ ?_ ?_ ?_|refine aR ?_ ?_|refine bC ?_ ?_|refine bM ?_ ?_|refine P0 (kH) ?_ ?_ ?_|refine F2 (kH) ?_ ?_ ?_|refine F7 (kH) ?_ ?_|refine P0 (gI) ?_ ?_ ?_|refine F2 (gI) ?_ ?_ ?_|refine F7 (gI) ?_ ?_|simp -implicitDefEqProofs only [CZ,qA,cS,cW,aJ,aP,qU,D1,D4,D5,D3,D0,D6,reduceIte,reduceCtorEq,bH, *]
  all_goals first
    | (simp; done)
    | exact bE
    | exact bE.symm
    | grind [aY,bL,bI]

theorem Fx {aW aV:Int} {aN aX:Int} {aG aO:Int} {aA:Bool} {bT bV bU:Int} {aB:List Slot} {aD aC:List Int} {aZ:Int} {aT:List Int} {bA:Int} {aU:List Int} {aL:Int} {aE:List Thread} {aK:List Entry} {id:Int} (h1:aB.length≤100000000) (h2:aD.length≤100000000) (h3:aC.length≤100000000) (h4:aT.length≤100000000) (h5:aU.length≤100000000) (h6:aE.length≤100000000) (h7:aK.length≤100000000):cX D8 239 [.agg [.int .i64 aW,.int .i64 aV,.int .i64 aN,.int .i64 aX,.int .i64 aG,.int .i64 aO,.bool aA,.int .i64 bT,.int .i64 bV,.int .i64 bU,.slv 2 (aB.map cU),.slv 1 (aD.map aS),.slv 1 (aC.map aS),.int .i64 aZ,.slv 1 (aT.map aS),.int .i64 bA,.slv 1 (aU.map aS),.int .i64 aL,.slv 11 (aE.map bH),.slv 5 (aK.map cO)],.int .i64 id] (.bool (Hg (State.mk (Config.mk aW aV aN aX aG aO aA) (Word.mk bT bV bU) aB aD aC (D7 aZ aT) (D7 bA aU) aL aE aK) id),[],[]):=by
  refine aI bP SS (by simp [BY]) fun hw _=>?_
  clear hw
  repeat' with_reducible first|refine aQ (fun h=>?_) (fun h=>?_)|refine bB (fun h=>?_) (fun h=>?_)|refine aF (fun h=>?_) (fun h=>?_)|refine aH (fun h=>?_) (fun h=>?_)|refine bJ ?_ ?_ ?_ ?_|refine aR ?_ ?_|refine bC ?_ ?_|refine bM ?_ ?_|refine P0 (iS ?_ ?_ ?_ ?_ ?_ ?_ ?_) ?_ ?_ ?_|refine eK (d:=default) ?_ ?_|refine L1 ?_ ?_|refine L2 ?_ ?_|refine L3 ?_ ?_ ?_ ?_|refine L4 ?_ ?_|refine L5 ?_ ?_ ?_ ?_ ?_|refine L6 ?_ ?_ ?_ ?_ ?_|refine P0 (Lb) ?_ ?_ ?_|refine F2 (Lb) ?_ ?_ ?_|refine F7 (Lb) ?_ ?_|simp -implicitDefEqProofs only [BY,qA,bN,bD,bO,aJ,aP,qU,D1,D4,D5,D3,D0,D6,reduceIte,reduceCtorEq,qI,E2,E1,bH,E0, *]
  all_goals first
    | omega
    | (simp at *; omega)
    | grind [Hg,cN,me]
    | (simp only [Hg,cN,me]; simp_all; done)
    | (simp only [Hg,cN,me]; simp_all; omega)
    | skip

def DB:AFn:=⟨8,(.seq (.reg [o1 2 (.mv (ci 0))]) (.seq (.seq (.reg [o1 3 (.mv 0)]) (.block 0 (.seq (.reg [o1 5 (.bin .eql 3 (ci 7)),o1 4 (.mv 5)]) (.cond 4 (.seq (.reg [o1 2 (.mv (ci 1))]) .ret) (.seq (.reg [o1 7 (.bin .eql 3 (ci 8)),o1 6 (.mv 7)]) (.cond 6 (.seq (.reg [o1 2 (.mv (ci 2))]) .ret) .skip)))))) (.seq (.reg [o1 2 (.mv (ci 0))]) .ret))),[(2,none)]⟩
theorem TU:xf D8 278=some DB:=by kernel_rfl
theorem Ld {k:Int}  : cX D8 278 [.int .i64 k] ((.int .i64 (Uh k)),[],[]):=by
  refine aI bP TU (by simp [DB]) fun hw _=>?_
  simp only [iR,AV.wf,aY] at hw
  repeat' with_reducible first|refine aQ (fun h=>?_) (fun h=>?_)|refine bB (fun h=>?_) (fun h=>?_)|refine aF (fun h=>?_) (fun h=>?_)|refine aH (fun h=>?_) (fun h=>?_)|refine bJ ?_ ?_ ?_ ?_|refine aR ?_ ?_|refine bC ?_ ?_|refine bM ?_ ?_|simp -implicitDefEqProofs only [DB,qA,cS,cW,aJ,aP,qU,D1,D4,D5,D3,D0,D6,reduceIte,reduceCtorEq, *]
  all_goals first
    | (simp; done)
    | exact bE
    | exact bE.symm
    | grind [aY,bL,bI,Uh]

def Pz:AFn:=⟨13,(.seq (.reg [o1 2 (.mv (.const .nilp))]) (.seq (.regT [o1 3 (.mv 0),o1 4 (.nilchk 3),o1 5 (.faddr 0 4),o1 6 (.faddr 18 5),o1 7 (.ld 1 false 6),o1 8 (.mv 0),o1 9 (.nilchk 8),o1 10 (.faddr 20 9),o1 11 (.ld 1 false 10),o1 12 (.iaddr 11 7 11),o1 2 (.mv 12)] [(1,6),(2,6),(3,6),(4,6),(1,7),(2,7),(3,7),(4,7),(1,8),(2,8),(3,8),(4,8)]) .ret)),[(2,none)]⟩
theorem HI:xf D8 240=some Pz:=by kernel_rfl
theorem Yb:Pz.code.lf=true:=rfl
def BZ:AFn:=⟨37,(.seq (.reg [o1 3 (.mv 0),o1 4 (.call 240 [3]),o1 5 (.nilchk 4),o1 6 (.faddr 1 5),o1 7 (.ld 1 false 6),o1 2 (.mv 7)]) (.seq (.regT [o1 8 (.mv 0),o1 9 (.mv 0),o1 10 (.nilchk 9),o1 11 (.faddr 0 10),o1 12 (.faddr 7 11),o1 13 (.ld 3 true 12),o1 14 (.mv 2),o1 15 (.call 278 [14]),o1 16 (.call 277 [13,15]),o1 17 (.nilchk 8),o1 18 (.faddr 0 17),o1 19 (.faddr 7 18),o2 (.st 3 19 16)] [(2,7),(3,7),(4,7),(5,7)]) (.seq (.regT [o1 20 (.mv 0),o1 21 (.mv 0),o1 22 (.nilchk 21),o1 23 (.faddr 0 22),o1 24 (.ld 20 true 23),o1 25 (.mv 0),o1 26 (.nilchk 25),o1 27 (.faddr 20 26),o1 28 (.ld 1 false 27),o1 29 (.mv 2),o1 30 (.call 279 [24,28,29,(ci 1),(ci 0)]),o1 31 (.nilchk 20),o1 32 (.faddr 0 31),o2 (.st 20 32 30)] [(2,6),(3,6),(4,6),(2,7),(3,7),(4,7),(2,8),(3,8),(4,8)]) (.reg [o1 33 (.mv 0),o1 34 (.call 240 [33]),o1 35 (.nilchk 34),o1 36 (.faddr 4 35),o2 (.st 1 36 (ci 1))])))),[]⟩
theorem ST:xf D8 241=some BZ:=by kernel_rfl
theorem PK:BZ.code.lf=true:=rfl
def uC:AFn:=⟨34,(.seq (.reg [o1 9 (.mv 1),o1 10 (.nilchk 9),o1 11 (.ld 2 true 10),o1 12 (.call 280 [11]),o1 8 (.mv 12),o1 13 (.ext 8 0),o1 14 (.ext 8 1),o1 4 (.alloc 29 [(.int .i64 0),.slnil]),o2 (.st 2 4 13),o1 5 (.mv 14)]) (.seq (.reg [o1 15 (.mv 1),o1 16 (.ld 2 true 4),o1 17 (.nilchk 15),o2 (.st 2 17 16)]) (.seq (.reg [o1 18 (.mv 5),o1 19 (.len 18),o1 20 (.mv (ci 0))]) (.block 0 (.loop (.seq (.reg [o1 21 (.bin .lss 20 19)]) (.seq (.cond 21 .skip (.exit 0)) (.seq (.block 1 (.seq (.reg [o1 22 (.iaddr 1 18 20),o1 23 (.ld 1 false 22),o1 7 (.mv 23)]) (.reg [o1 24 (.mv 0),o1 25 (.mv 0),o1 26 (.nilchk 25),o1 27 (.faddr 0 26),o1 28 (.ld 20 true 27),o1 29 (.mv 7),o1 30 (.call 41 [28,29]),o1 31 (.nilchk 24),o1 32 (.faddr 0 31),o2 (.st 20 32 30)]))) (.reg [o1 33 (.bin .add 20 (ci 1)),o1 20 (.mv 33)]))))))))),[]⟩
theorem AB:xf D8 242=some uC:=by kernel_rfl
def Df:AFn:=⟨61,(.seq (.reg [o1 2 (.box 33 0),o1 4 (.alloc 33 [(.int .i64 0),(.int .i64 0),(.int .i64 0),(.int .i64 0),(.int .i64 0),(.int .i64 0),(.bool false),(.int .i64 0),(.int .i64 0),(.int .i64 0),.slnil,.slnil,.slnil,(.int .i64 0),.slnil,(.int .i64 0),.slnil,(.int .i64 0),.slnil,.slnil])]) (.seq (.reg [o1 6 (.ld 20 true 2),o1 7 (.call 41 [6,(ci (-1))]),o1 8 (.mv 1),o1 9 (.build [(.int .i64 0),(.int .i64 0),(.int .i64 0),(.int .i64 0),(.int .i64 0),(.int .i64 0),(.bool false),(.int .i64 0),(.int .i64 0),(.int .i64 0),.slnil,.slnil,.slnil,(.int .i64 0),.slnil,(.int .i64 0),.slnil,(.int .i64 0),.slnil,.slnil,(.int .i64 0)] [(0,20,7),(20,1,8)]),o1 10 (.box 231 9),o1 5 (.mv 10)]) (.seq (.seq (.reg [o1 11 (.ld 20 true 2),o1 12 (.mv 1),o1 13 (.call 239 [11,12]),o1 14 (.not 13)]) (.cond 14 (.seq (.reg [o1 15 (.mv 5),o1 16 (.nilchk 15),o1 17 (.faddr 0 16),o1 18 (.ld 20 true 17),o2 (.st 20 4 18)]) .ret) .skip)) (.seq (.seq (.reg [o1 19 (.mv 5),o1 20 (.call 240 [19]),o1 21 (.nilchk 20),o1 22 (.faddr 4 21),o1 23 (.ld 1 false 22)]) (.block 0 (.seq (.reg [o1 42 (.bin .eql 23 (ci 0)),o1 41 (.mv 42)]) (.cond 41 (.reg [o1 43 (.mv 5),o1 44 (.call 241 [43])]) (.seq (.reg [o1 46 (.bin .eql 23 (ci 1)),o1 45 (.mv 46)]) (.cond 45 (.seq (.reg [o1 47 (.mv 5),o1 48 (.mv 5),o1 49 (.nilchk 48),o1 50 (.faddr 0 49),o1 51 (.faddr 13 50),o1 52 (.call 242 [47,51])]) (.reg [o1 53 (.mv 5),o1 54 (.call 240 [53]),o1 55 (.nilchk 54),o1 56 (.faddr 4 55),o2 (.st 1 56 (ci 2))])) (.seq (.reg [o1 24 (.mv 5),o1 25 (.mv 5),o1 26 (.nilchk 25),o1 27 (.faddr 0 26),o1 28 (.faddr 15 27),o1 29 (.call 242 [24,28])]) (.reg [o1 31 (.mv 5),o1 32 (.call 240 [31]),o1 33 (.mv 5),o1 34 (.call 240 [33]),o1 35 (.nilchk 34),o1 36 (.ld 11 true 35),o1 37 (.call 243 [36]),o1 30 (.mv 37),o1 38 (.ext 30 0),o1 39 (.ext 30 1),o1 40 (.nilchk 32),o2 (.st 11 40 38)])))))))) (.seq (.reg [o1 57 (.mv 5),o1 58 (.nilchk 57),o1 59 (.faddr 0 58),o1 60 (.ld 20 true 59),o2 (.st 20 4 60)]) .ret))))),[(4,some (20,true))]⟩
theorem AA:xf D8 191=some Df:=by kernel_rfl
theorem DP {s:State} {id:Int} (h:Hg s id=true):cN s id=true:=by
  simp only [Hg,Bool.and_eq_true] at h; exact h.1.1
theorem Il {c:Config} {w0 w:Word} {sl:List Slot} {a b:List Int} {f e:Event} {n:Int} {th:List Thread} {lg:List Entry} {id:Int} (h:Hg ⟨c,w0,sl,a,b,f,e,n,th,lg⟩ id=true) (hw:cT w0 sl.length=true→cT w sl.length=true):cN ⟨c,⟨w.h,w.t,w.m⟩,sl,a,b,f,e,n,th,lg⟩ id=true:=uW (s:=⟨c,w0,sl,a,b,f,e,n,th,lg⟩) (DP h) hw
theorem Vi {aW aV:Int} {aN aX:Int} {aG aO:Int} {aA:Bool} {bT bV bU:Int} {aB:List Slot} {aD aC:List Int} {aZ:Int} {aT:List Int} {bA:Int} {aU:List Int} {aL:Int} {aE:List Thread} {aK:List Entry} {id:Int} (h1:aB.length≤100000000) (h2:aD.length≤100000000) (h3:aC.length≤100000000) (h4:aT.length≤100000000) (h5:aU.length≤100000000) (h6:aE.length≤100000000) (h7:aK.length≤100000000) (hI:Hg (State.mk (Config.mk aW aV aN aX aG aO aA) (Word.mk bT bV bU) aB aD aC (D7 aZ aT) (D7 bA aU) aL aE aK) id=true) (hpc:(aE.getD id.toNat default).pc=0):cX D8 191 [.agg [.int .i64 aW,.int .i64 aV,.int .i64 aN,.int .i64 aX,.int .i64 aG,.int .i64 aO,.bool aA,.int .i64 bT,.int .i64 bV,.int .i64 bU,.slv 2 (aB.map cU),.slv 1 (aD.map aS),.slv 1 (aC.map aS),.int .i64 aZ,.slv 1 (aT.map aS),.int .i64 bA,.slv 1 (aU.map aS),.int .i64 aL,.slv 11 (aE.map bH),.slv 5 (aK.map cO)],.int .i64 id] (.agg (bR (Hr (State.mk (Config.mk aW aV aN aX aG aO aA) (Word.mk bT bV bU) aB aD aC (D7 aZ aT) (D7 bA aU) aL aE aK) id)),[],[]):=by
  have hI':=hI
  simp only [Hg,cN,Bool.and_eq_true,decide_eq_true_eq] at hI'
  obtain ⟨⟨⟨⟨hchk,hge⟩,hlt⟩,hruns⟩,hside⟩:=hI'
  have hid:id.toNat<aE.length:=by omega
  have hne:aE≠[]:=by intro h; subst h; simp at hlt; omega
  refine aI bP AA (by simp [Df]) fun hw _=>?_
  clear hw
  repeat' with_reducible first|refine aQ (fun h=>?_) (fun h=>?_)|refine bB (fun h=>?_) (fun h=>?_)|refine aF (fun h=>?_) (fun h=>?_)|refine aH (fun h=>?_) (fun h=>?_)|refine FN ?_ ?_ ?_ ?_ rfl ?_|refine aR ?_ ?_|refine bC ?_ ?_|refine bM ?_ ?_|refine I2 bP ST PK ?_ ?_ ?_ ?_ ?_|refine IA ?_ ?_ ?_|refine L1 ?_ ?_|refine L2 ?_ ?_|refine L3 ?_ ?_ ?_ ?_|refine L4 ?_ ?_|refine L5 ?_ ?_ ?_ ?_ ?_|refine L6 ?_ ?_ ?_ ?_ ?_|refine N1 (gF ?_ ?_ ?_ ?_ ?_ ?_ ?_ hne) ?_ ?_|refine P0 (Fx ?_ ?_ ?_ ?_ ?_ ?_ ?_) ?_ ?_ ?_|refine I3 bP HI Yb ?_ ?_ ?_ ?_ ?_|refine dE ?_ ?_ ?_ ?_|refine GN 279 ?_ ?_ ?_|refine ACN.of (oH ?_ ?_ ?_ ?_ ?_ ?_ ?_ ?_) ?_|refine P0 (Lc) ?_ ?_ ?_|refine F2 (Lc) ?_ ?_ ?_|refine F7 (Lc) ?_ ?_|refine P0 (Ld) ?_ ?_ ?_|refine F2 (Ld) ?_ ?_ ?_|refine F7 (Ld) ?_ ?_|simp -implicitDefEqProofs only [Df,qA,bN,bD,bO,aJ,aP,qU,D1,D4,D5,D3,D0,D6,reduceIte,reduceCtorEq,qI,E2,E1,BZ,cL,E0,bH,dM,dO,hX,hpc,hI,Int.reduceToNat,Nat.mul_one,cE,cG,Int.reduceLE,Int.reduceLT,F4,F5,Int.toNat_zero,Int.toNat_one,Int.le_refl,set_set,bG,Pz, *]
  all_goals first
    | omega
    | (constructor <;> omega)
    | exact G3 _
    | (with_reducible refine Il hI ?_
       exact fun h=>Kd h)
    | (simp only [Hg,Bool.and_eq_true] at hI; with_reducible exact hI.1.1)
    | (refine Wk.of_eq ?_
       have htr:=eU hchk hge hlt
       try simp only [decide_eq_true_eq,decide_eq_false_iff_not,Bool.not_eq_true] at *
       unfold Hr
       try simp only [me] at *
       have hw:=cV htr
       clear hchk hI hside hruns htr
       try simp only [*,reduceIte,if_true,if_false,Bool.false_eq_true,and_true,true_and,and_false,false_and,and_self,not_true_eq_false,not_false_eq_true,ne_eq,F4,F5]
       try rw [F3 (by simp [cE,cG])]
       simp only [bR,dM,dO,kZ,cK,cR,eJ,cQ,cH,vI,kM,fZ,gD,iD,fB,eP,dD,dU,me,bG,set_set,List.length_set,gZ,fQ,eT,eS,eR,fP,eQ,hD,gQ,fH,eF,eE,eD,fG,eC,gS,gR,hG hpc, *]
       done)
    | skip

end Go.Sak
