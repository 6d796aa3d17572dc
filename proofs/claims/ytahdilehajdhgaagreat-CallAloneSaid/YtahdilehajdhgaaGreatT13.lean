/- Part T13 of the proofs about the program: K5, K6, K7. Conditions: none. -/
import Derived.Test.YtahdilehajdhgaaGreatT12
open Go.Sak.ACK renaming of→F7
open Go.Sak.ACV renaming of→F2
open Int renaming natCast_zero→F1,toNat_natCast→E0
open List renaming length_map→G7,reduceReplicate→D1,take_of_length_le→F3
open Nat renaming reduceAdd→D4,reduceEqDiff→D0,reduceLeDiff→D3,reduceMul→D6,reduceSub→D5,zero_le→M6
open Go.Proofs.Tryz renaming prog→D8
namespace Go.Sak
open Go Go.RowKit Go.Proofs
set_option linter.unusedVariables false
set_option linter.unusedSimpArgs false
set_option maxRecDepth 10000
set_option maxHeartbeats 8000000
theorem Af:cX D8 129 [.slnil] (.slnil,[],[]):=by
  refine aI bP Th (by simp [zR]) fun hw _=>?_
  repeat' with_reducible first|refine aQ (fun h=>?_) (fun h=>?_)|refine bB (fun h=>?_) (fun h=>?_)|refine aF (fun h=>?_) (fun h=>?_)|refine aH (fun h=>?_) (fun h=>?_)|refine bJ ?_ ?_ ?_ ?_|refine aR ?_ ?_|refine bC ?_ ?_|refine bM ?_ ?_|simp -implicitDefEqProofs only [zR,qA,cS,cW,aJ,aP,qU,D1,D4,D5,D3,D0,D6,reduceIte,reduceCtorEq,jU,jV,iH,sW,sX,bY, *]
  all_goals (simp; done)
theorem Ad:cX D8 129 [.sle 1] (.slm 1 0,[(1,some (.rows 3 1 []))],[]):=by
  refine aI bP Th (by simp [zR]) fun hw _=>?_
  repeat' with_reducible first|refine aQ (fun h=>?_) (fun h=>?_)|refine bB (fun h=>?_) (fun h=>?_)|refine aF (fun h=>?_) (fun h=>?_)|refine aH (fun h=>?_) (fun h=>?_)|refine sR [(81,1)] ?_ ?_ ?_|refine aR ?_ ?_|refine bC ?_ ?_|refine bM ?_ ?_|simp -implicitDefEqProofs only [zR,qA,cS,cW,aJ,aP,qU,D1,D4,D5,D3,D0,D6,reduceIte,reduceCtorEq,jU,jV,iH,sW,sX,bY, *]
  all_goals first
    | (simp; done)
    | (simp [stOk,stM,stT,nameT,lk,AV.tr,Blk.tr,trss,eB _ pure_encI,dQ _ _ (pure_encI _),AM.upd,AM.rep]; done)
    | (simp at hl ⊢; omega)
theorem DV {x:Int} {l:List Int} (hl:(x :: l).length≤1000000000):cX D8 129 [.slv 1 (aS x :: l.map aS)] (.slm 1 (l.length+1),[(1,some (.rows 3 1 (aS x :: l.map aS)))],[]):=by
  refine aI bP Th (by simp [zR]) fun hw _=>?_
  repeat' with_reducible first|refine aQ (fun h=>?_) (fun h=>?_)|refine bB (fun h=>?_) (fun h=>?_)|refine aF (fun h=>?_) (fun h=>?_)|refine aH (fun h=>?_) (fun h=>?_)|refine sR [(81,1)] ?_ ?_ ?_|refine aR ?_ ?_|refine bC ?_ ?_|refine bM ?_ ?_|simp -implicitDefEqProofs only [zR,qA,cS,cW,aJ,aP,qU,D1,D4,D5,D3,D0,D6,reduceIte,reduceCtorEq,jU,jV,iH,sW,sX,bY, *]
  all_goals first
    | (simp; done)
    | (simp [stOk,stM,stT,nameT,lk,AV.tr,Blk.tr,trss,eB _ pure_encI,dQ _ _ (pure_encI _),AM.upd,AM.rep]; done)
    | (simp at hl ⊢; omega)
theorem Ae {l:List Int} (hne:l≠[]) (hl:l.length≤1000000000):cX D8 129 [.slv 1 (l.map aS)] (.slm 1 l.length,[(1,some (.rows 3 1 (l.map aS)))],[]):=by
  cases l with
  | nil=>exact absurd rfl hne
  | cons x l=>exact DV hl

theorem DW {x:Thread} {l:List Thread} (hl:(x :: l).length≤1000000000):cX D8 130 [.slv 11 (bH x :: l.map bH)] (.slm 1 (l.length+1),[(1,some (.rows 42 11 (bH x :: l.map bH)))],[]):=by
  refine aI bP HG (by simp [Hj]) fun hw _=>?_
  repeat' with_reducible first|refine aQ (fun h=>?_) (fun h=>?_)|refine bB (fun h=>?_) (fun h=>?_)|refine aF (fun h=>?_) (fun h=>?_)|refine aH (fun h=>?_) (fun h=>?_)|refine sR [(81,1)] ?_ ?_ ?_|refine aR ?_ ?_|refine bC ?_ ?_|refine bM ?_ ?_|simp -implicitDefEqProofs only [Hj,qA,cS,cW,aJ,aP,qU,D1,D4,D5,D3,D0,D6,reduceIte,reduceCtorEq,jU,jV,iH,sW,sX,bY, *]
  all_goals first
    | (simp; done)
    | (simp [stOk,stM,stT,nameT,lk,AV.tr,Blk.tr,trss,eB _ pure_encT,dQ _ _ (pure_encT _),AM.upd,AM.rep]; done)
    | (simp at hl ⊢; omega)
theorem nG {l:List Thread} (hne:l≠[]) (hl:l.length≤1000000000):cX D8 130 [.slv 11 (l.map bH)] (.slm 1 l.length,[(1,some (.rows 42 11 (l.map bH)))],[]):=by
  cases l with
  | nil=>exact absurd rfl hne
  | cons x l=>exact DW hl

theorem Ng:cX D8 131 [.slnil] (.slnil,[],[]):=by
  refine aI bP Ti (by simp [zS]) fun hw _=>?_
  repeat' with_reducible first|refine aQ (fun h=>?_) (fun h=>?_)|refine bB (fun h=>?_) (fun h=>?_)|refine aF (fun h=>?_) (fun h=>?_)|refine aH (fun h=>?_) (fun h=>?_)|refine bJ ?_ ?_ ?_ ?_|refine aR ?_ ?_|refine bC ?_ ?_|refine bM ?_ ?_|simp -implicitDefEqProofs only [zS,qA,cS,cW,aJ,aP,qU,D1,D4,D5,D3,D0,D6,reduceIte,reduceCtorEq,jU,jV,iH,sW,sX,bY, *]
  all_goals (simp; done)
theorem Nd:cX D8 131 [.sle 5] (.slm 1 0,[(1,some (.rows 109 5 []))],[]):=by
  refine aI bP Ti (by simp [zS]) fun hw _=>?_
  repeat' with_reducible first|refine aQ (fun h=>?_) (fun h=>?_)|refine bB (fun h=>?_) (fun h=>?_)|refine aF (fun h=>?_) (fun h=>?_)|refine aH (fun h=>?_) (fun h=>?_)|refine sR [(81,1)] ?_ ?_ ?_|refine aR ?_ ?_|refine bC ?_ ?_|refine bM ?_ ?_|simp -implicitDefEqProofs only [zS,qA,cS,cW,aJ,aP,qU,D1,D4,D5,D3,D0,D6,reduceIte,reduceCtorEq,jU,jV,iH,sW,sX,bY, *]
  all_goals first
    | (simp; done)
    | (simp [stOk,stM,stT,nameT,lk,AV.tr,Blk.tr,trss,eB _ pure_encE,dQ _ _ (pure_encE _),AM.upd,AM.rep]; done)
    | (simp at hl ⊢; omega)
theorem DX {x:Entry} {l:List Entry} (hl:(x :: l).length≤1000000000):cX D8 131 [.slv 5 (cO x :: l.map cO)] (.slm 1 (l.length+1),[(1,some (.rows 109 5 (cO x :: l.map cO)))],[]):=by
  refine aI bP Ti (by simp [zS]) fun hw _=>?_
  repeat' with_reducible first|refine aQ (fun h=>?_) (fun h=>?_)|refine bB (fun h=>?_) (fun h=>?_)|refine aF (fun h=>?_) (fun h=>?_)|refine aH (fun h=>?_) (fun h=>?_)|refine sR [(81,1)] ?_ ?_ ?_|refine aR ?_ ?_|refine bC ?_ ?_|refine bM ?_ ?_|simp -implicitDefEqProofs only [zS,qA,cS,cW,aJ,aP,qU,D1,D4,D5,D3,D0,D6,reduceIte,reduceCtorEq,jU,jV,iH,sW,sX,bY, *]
  all_goals first
    | (simp; done)
    | (simp [stOk,stM,stT,nameT,lk,AV.tr,Blk.tr,trss,eB _ pure_encE,dQ _ _ (pure_encE _),AM.upd,AM.rep]; done)
    | (simp at hl ⊢; omega)
theorem Nf {l:List Entry} (hne:l≠[]) (hl:l.length≤1000000000):cX D8 131 [.slv 5 (l.map cO)] (.slm 1 l.length,[(1,some (.rows 109 5 (l.map cO)))],[]):=by
  cases l with
  | nil=>exact absurd rfl hne
  | cons x l=>exact DX hl

theorem Nc {id:Int}:cX D8 100 [.slv 1 [[.int .i64 id]]] (.bool (gX [id]),[],[]):=iK (l:=[id]) (by simp)
def Qe:AFn:=⟨28,(.seq (.reg [o1 4 (.mv (.const .slnil)),o1 5 (.mv (ci 0))]) (.seq (.reg [o1 7 (.mv 0),o1 8 (.call 129 [7]),o1 6 (.mv 8)]) (.seq (.block 0 (.seq (.seq (.reg [o1 10 (.mv 0),o1 11 (.call 100 [10]),o1 12 (.not 11),o1 9 (.mv 12)]) (.cond 9 .skip (.reg [o1 13 (.mv 1),o1 14 (.bslice 3 1 1 [13]),o1 15 (.call 100 [14]),o1 16 (.not 15),o1 9 (.mv 16)]))) (.cond 9 (.seq (.reg [o1 17 (.mv 6),o1 4 (.mv 17),o1 5 (.mv (ci 40))]) .ret) (.seq (.reg [o1 19 (.mv 0),o1 20 (.mv 1),o1 21 (.call 137 [19,20]),o1 22 (.bin .geq 21 (ci 0)),o1 18 (.mv 22)]) (.cond 18 (.seq (.reg [o1 23 (.mv 6),o1 4 (.mv 23),o1 5 (.mv (ci 60))]) .ret) .skip))))) (.seq (.reg [o1 24 (.mv 6),o1 25 (.mv 1),o1 26 (.bslice 3 1 1 [25]),o1 27 (.app 3 1 8 24 26),o1 4 (.mv 27),o1 5 (.mv (ci 0))]) .ret)))),[(4,none),(5,none)]⟩
theorem MN:xf D8 245=some Qe:=by kernel_rfl
theorem qF {l:List Int} {id:Int} (hl:l.length≤100000000):cX D8 245 [.slv 1 (l.map aS),.int .i64 id] (.tup [.slv 1 ((iC l id).1.map aS),.int .i64 (iC l id).2],[],[]):=by
  by_cases hne:l=[]
  · subst hne
    refine Hw ?_ ?_
    all_goals refine aI bP MN (by simp [Qe]) fun hw _=>?_
    repeat' with_reducible first|refine aQ (fun h=>?_) (fun h=>?_)|refine bB (fun h=>?_) (fun h=>?_)|refine aF (fun h=>?_) (fun h=>?_)|refine aH (fun h=>?_) (fun h=>?_)|refine iW ?_ ?_ ?_ rfl ?_|refine aR ?_ ?_|refine bC ?_ ?_|refine bM ?_ ?_|refine P0 Af ?_ ?_ ?_|refine N1 Ad ?_ ?_|refine N1 (Ae hne ?_) ?_ ?_|refine P0 (iK ?_) ?_ ?_ ?_|refine P0 (sN (enc:=aS) (iK (l:=[]) ?_)) ?_ ?_ ?_|refine P0 (yB (enc:=aS) (iK (l:=[]) ?_)) ?_ ?_ ?_|refine F2 (iK ?_) ?_ ?_ ?_|refine P0 (iV ?_) ?_ ?_ ?_|refine P0 (sN (enc:=aS) (iV (l:=[]) ?_)) ?_ ?_ ?_|refine P0 (yB (enc:=aS) (iV (l:=[]) ?_)) ?_ ?_ ?_|refine F2 (iV ?_) ?_ ?_ ?_|refine F2 Nc ?_ ?_ ?_|refine AC.viewAll ?_ ?_ ?_|simp -implicitDefEqProofs only [Qe,qA,cS,cW,aJ,aP,qU,D1,D4,D5,D3,D0,D6,reduceIte,reduceCtorEq,cL,bt_rows,trss,bY,M6,G7,take_mapl, *]
    all_goals first
      | (simp; done)
      | (simp at hl ⊢; omega)
      | omega
      | (simp [pE,bQ pure_encI,puress,pures,AV.pure]; done)
      | (first
          | rw [show iC [] id=([],40) by grind [iC]]
          | rw [show iC [] id=([],60) by grind [iC]]
          | rw [show iC [] id=([] ++ [id],0) by grind [iC]]
         refine Wk.tup ⟨?_,fun _=>rfl,Wk.refl _,fun _=>rfl,trivial⟩
         first
          | exact Wk.nil _
          | exact Wk.refl _
          | (refine Wk.of_eq ?_; simp [aS,F3]; done))
      | skip
  · refine aI bP MN (by simp [Qe]) fun hw _=>?_
    repeat' with_reducible first|refine aQ (fun h=>?_) (fun h=>?_)|refine bB (fun h=>?_) (fun h=>?_)|refine aF (fun h=>?_) (fun h=>?_)|refine aH (fun h=>?_) (fun h=>?_)|refine iW ?_ ?_ ?_ rfl ?_|refine aR ?_ ?_|refine bC ?_ ?_|refine bM ?_ ?_|refine P0 Af ?_ ?_ ?_|refine N1 Ad ?_ ?_|refine N1 (Ae hne ?_) ?_ ?_|refine P0 (iK ?_) ?_ ?_ ?_|refine P0 (sN (enc:=aS) (iK (l:=[]) ?_)) ?_ ?_ ?_|refine P0 (yB (enc:=aS) (iK (l:=[]) ?_)) ?_ ?_ ?_|refine F2 (iK ?_) ?_ ?_ ?_|refine P0 (iV ?_) ?_ ?_ ?_|refine P0 (sN (enc:=aS) (iV (l:=[]) ?_)) ?_ ?_ ?_|refine P0 (yB (enc:=aS) (iV (l:=[]) ?_)) ?_ ?_ ?_|refine F2 (iV ?_) ?_ ?_ ?_|refine F2 Nc ?_ ?_ ?_|refine AC.viewAll ?_ ?_ ?_|simp -implicitDefEqProofs only [Qe,qA,cS,cW,aJ,aP,qU,D1,D4,D5,D3,D0,D6,reduceIte,reduceCtorEq,cL,bt_rows,trss,bY,M6,G7,take_mapl, *]
    all_goals first
      | (simp; done)
      | (simp at hl ⊢; omega)
      | omega
      | (simp [pE,bQ pure_encI,puress,pures,AV.pure]; done)
      | (first
          | rw [show iC l id=(l,40) by grind [iC]]
          | rw [show iC l id=(l,60) by grind [iC]]
          | rw [show iC l id=(l ++ [id],0) by grind [iC]]
         refine Wk.tup ⟨?_,fun _=>rfl,Wk.refl _,fun _=>rfl,trivial⟩
         first
          | exact Wk.nil _
          | exact Wk.refl _
          | (refine Wk.of_eq ?_; simp [aS,F3]; done))
      | skip

set_option maxHeartbeats 8000000
def MY:AFn:=⟨38,(.seq (.reg [o1 2 (.mv (.const (.bool false)))]) (.seq (.seq (.reg [o1 5 (.mv 0),o1 6 (.len 5),o1 7 (.mv (ci 0))]) (.block 0 (.loop (.seq (.reg [o1 8 (.bin .lss 7 6)]) (.seq (.cond 8 .skip (.exit 0)) (.seq (.block 1 (.seq (.reg [o1 9 (.mv 7),o1 10 (.iaddr 2 5 7),o1 11 (.ld 2 true 10),o1 4 (.alloc 107 [(.int .i64 0),(.int .i64 0)]),o1 3 (.mv 9),o2 (.st 2 4 11)]) (.seq (.reg [o1 12 (.faddr 0 4),o1 13 (.ld 1 false 12),o1 14 (.bin .lss 13 (ci 0)),o1 15 (.mv 14),o4 16 (.faddr 0 4) 15,o4 17 (.ld 1 false 16) 15,o4 18 (.bin .gtr 17 (ci 2199023255552)) 15,o1 19 (.pick 15 (.const (.bool true)) 18),o1 20 (.mv 19),o4 21 (.faddr 0 4) 20,o4 22 (.ld 1 false 21) 20,o4 23 (.mv 0) 20,o4 24 (.len 23) 20,o4 25 (.call 98 [22,24]) 20,o4 26 (.mv 3) 20,o4 27 (.bin .neq 25 26) 20,o1 28 (.pick 20 (.const (.bool true)) 27)]) (.cond 28 (.seq (.reg [o1 2 (.mv (.const (.bool false)))]) .ret) .skip)))) (.reg [o1 29 (.bin .add 7 (ci 1)),o1 7 (.mv 29)]))))))) (.seq (.reg [o1 30 (.mv 0),o1 31 (.len 30),o1 32 (.bin .geq 31 (ci 1)),o1 33 (.mv 32),o3 34 (.mv 0) 33,o3 35 (.len 34) 33,o3 36 (.bin .leq 35 (ci 64)) 33,o1 37 (.pick 33 36 (.const (.bool false))),o1 2 (.mv 37)]) .ret))),[(2,none)]⟩
theorem YQ:xf D8 53=some MY:=by kernel_rfl
theorem nR {l:List Slot} (hl:l.length≤1000000000):cX D8 53 [.slv 2 (l.map cU)] (.bool (dA l),[],[]):=by
  refine aI bP YQ (by simp [MY]) fun hw _=>?_
  simp only [iR,AV.wf,aY,G7] at hw
  simp -implicitDefEqProofs only [MY,qA,cS,cW,aJ,aP,qU,D1,D4,D5,D3,D0,D6,reduceIte,reduceCtorEq,len_encS,mF,cU,E0,F1]
  refine xA (fun i:Nat=>[some (.slv 2 (l.map cU)),none,none,none,none,some (.slv 2 (l.map cU)),some (.int .i64 l.length),some (.int .i64 i),none,none,none,none,none,none,none,none,none,none,none,none,none,none,none,none,none,none,none,none,none,none,none,none,none,none,none,none,none,none]) (fun i=>i≤l.length∧∀ j,j<i→vP l j=true) (fun i=>l.length - i) 0 ?_ ?_ ?_ ?_ ?_
  rotate_right
  · intro i hJ
    simp only [dL,dK,all_nil]
    intros
    repeat' with_reducible first|refine aQ (fun h=>?_) (fun h=>?_)|refine bB (fun h=>?_) (fun h=>?_)|refine aF (fun h=>?_) (fun h=>?_)|refine aH (fun h=>?_) (fun h=>?_)|refine bJ ?_ ?_ ?_ ?_|refine aR ?_ ?_|refine bC ?_ ?_|refine bM ?_ ?_|refine eK (d:=default) ?_ ?_|refine xD (i+1) ?_ ?_ ?_ ?_ ?_|refine P0 (lR) ?_ ?_ ?_|refine F2 (lR) ?_ ?_ ?_|refine F7 (lR) ?_ ?_|simp -implicitDefEqProofs only [MY,qA,cS,cW,aJ,aP,qU,D1,D4,D5,D3,D0,D6,reduceIte,reduceCtorEq,len_encS,mF,cU,E0,F1, *]
    all_goals first
    | (simp; done)
    | (rw [dA,Yy (i:=i) (by grind) (by grind [vP])]; simp; done)
    | (rw [dA,Yz (by grind)]; grind)
    | grind [aY,bL,bI,iA,vP]
  all_goals first
    | (simp; done)
    | (simp -implicitDefEqProofs only [MY,qA,cS,cW,aJ,aP,qU,D1,D4,D5,D3,D0,D6,reduceIte,reduceCtorEq,len_encS,mF,cU,E0,F1]; done)
    | (rw [dA,Yy (i:=i) (by grind) (by grind [vP])]; simp; done)
    | (rw [dA,Yz (by grind)]; grind)
    | grind [aY,bL,bI,iA,vP]

def DG:AFn:=⟨23,(.seq (.reg [o1 4 (.mv (.const (.bool false)))]) (.seq (.reg [o1 5 (.mv 1),o1 6 (.bin .geq 5 (ci 0)),o1 7 (.mv 6),o3 8 (.mv 0) 7,o3 9 (.call 53 [8]) 7,o1 10 (.pick 7 9 (.const (.bool false))),o1 11 (.mv 10),o3 12 (.mv 0) 11,o3 13 (.mv 1) 11,o3 14 (.mv 0) 11,o3 15 (.len 14) 11,o3 16 (.call 98 [13,15]) 11,o3 17 (.iaddr 2 12 16) 11,o3 18 (.faddr 0 17) 11,o3 19 (.ld 1 false 18) 11,o3 20 (.mv 1) 11,o3 21 (.bin .eql 19 20) 11,o1 22 (.pick 11 21 (.const (.bool false))),o1 4 (.mv 22)]) .ret)),[(4,none)]⟩
theorem UA:xf D8 295=some DG:=by kernel_rfl
theorem qG {p:Int} {l:List Slot} (hl:l.length≤1000000000):cX D8 295 [.slv 2 (l.map cU),.int .i64 p] ((.bool (hP l p)),[],[]):=by
  refine aI bP UA (by simp [DG]) fun hw _=>?_
  simp only [iR,AV.wf,aY] at hw
  repeat' with_reducible first|refine aQ (fun h=>?_) (fun h=>?_)|refine bB (fun h=>?_) (fun h=>?_)|refine aF (fun h=>?_) (fun h=>?_)|refine aH (fun h=>?_) (fun h=>?_)|refine bJ ?_ ?_ ?_ ?_|refine aR ?_ ?_|refine bC ?_ ?_|refine bM ?_ ?_|refine eK (d:=default) ?_ ?_|refine P0 (nR ?_) ?_ ?_ ?_|refine F2 (nR ?_) ?_ ?_ ?_|refine F7 (nR ?_) ?_ ?_|refine P0 (lR) ?_ ?_ ?_|refine F2 (lR) ?_ ?_ ?_|refine F7 (lR) ?_ ?_|simp -implicitDefEqProofs only [DG,qA,cS,cW,aJ,aP,qU,D1,D4,D5,D3,D0,D6,reduceIte,reduceCtorEq,cU, *]
  all_goals (have hA:=kV p l.length; have hB:=kU p l.length)
  all_goals first
    | (simp; done)
    | exact bE
    | exact bE.symm
    | grind [aY,bL,bI,hP,dA]

def DH:AFn:=⟨21,(.seq (.reg [o1 2 (.mv (ci 0)),o1 3 (.mv (.const .slnil)),o1 4 (.mv (.const (.bool false)))]) (.seq (.seq (.reg [o1 5 (.mv 0),o1 6 (.call 100 [5]),o1 7 (.not 6),o1 8 (.mv 7),o4 9 (.mv 0) 8,o4 10 (.len 9) 8,o4 11 (.bin .eql 10 (ci 0)) 8,o1 12 (.pick 8 (.const (.bool true)) 11)]) (.cond 12 (.seq (.reg [o1 13 (.mv 0),o1 14 (.call 129 [13]),o1 2 (.mv (ci 0)),o1 3 (.mv 14),o1 4 (.mv (.const (.bool false)))]) .ret) .skip)) (.seq (.regT [o1 15 (.mv 0),o1 16 (.iaddr 1 15 (ci 0)),o1 17 (.ld 1 false 16),o1 18 (.mv 0),o1 19 (.slc 1 18 (some (ci 1)) none),o1 20 (.call 129 [19]),o1 2 (.mv 17),o1 3 (.mv 20),o1 4 (.mv (.const (.bool true)))] [(1,4),(2,4),(1,5),(2,5)]) .ret))),[(2,none),(3,none),(4,none)]⟩
theorem UB:xf D8 297=some DH:=by kernel_rfl
theorem gE  {l:List Int} (hl:l.length≤1000000000):cX D8 297 [.slv 1 (l.map aS)] ((.tup [.int .i64 ((pM l).1),.slv 1 (((pM l).2.1).map aS),.bool ((pM l).2.2)]),[],[]):=by
  refine aI bP UB (by simp [DH]) fun hw _=>?_
  simp only [iR,AV.wf,aY] at hw
  repeat' with_reducible first|refine aQ (fun h=>?_) (fun h=>?_)|refine bB (fun h=>?_) (fun h=>?_)|refine aF (fun h=>?_) (fun h=>?_)|refine aH (fun h=>?_) (fun h=>?_)|refine bJ ?_ ?_ ?_ ?_|refine aR ?_ ?_|refine bC ?_ ?_|refine bM ?_ ?_|refine eK (d:=default) ?_ ?_|refine Zg ?_ ?_|refine P0 (iK ?_) ?_ ?_ ?_|refine F2 (iK ?_) ?_ ?_ ?_|refine F7 (iK ?_) ?_ ?_|refine P0 (dR ?_) ?_ ?_ ?_|refine F2 (dR ?_) ?_ ?_ ?_|refine F7 (dR ?_) ?_ ?_|simp -implicitDefEqProofs only [DH,qA,cS,cW,aJ,aP,qU,D1,D4,D5,D3,D0,D6,reduceIte,reduceCtorEq,aS,G7, *]
  all_goals first
    | (simp; done)
    | exact bE
    | exact bE.symm
    | grind [aY,bL,bI,pM]

set_option maxHeartbeats 8000000
def UP:AFn:=⟨16,(.seq (.reg [o1 1 (.box 29 0),o1 2 (.mv (.const (.bool false)))]) (.seq (.reg [o1 3 (.faddr 0 1),o1 4 (.ld 1 false 3),o1 5 (.bin .geq 4 (ci 0)),o1 6 (.mv 5),o3 7 (.faddr 0 1) 6,o3 8 (.ld 1 false 7) 6,o3 9 (.bin .leq 8 (ci 1099511627776)) 6,o1 10 (.pick 6 9 (.const (.bool false))),o1 11 (.mv 10),o3 12 (.faddr 1 1) 11,o3 13 (.ld 1 false 12) 11,o3 14 (.call 100 [13]) 11,o1 15 (.pick 11 14 (.const (.bool false))),o1 2 (.mv 15)]) .ret)),[(2,none)]⟩
theorem YS:xf D8 55=some UP:=by kernel_rfl
theorem fT {fF:Int} {eH:List Int} (hl:eH.length≤100000000):cX D8 55 [.agg [.int .i64 fF,.slv 1 (eH.map aS)]] ((.bool (eZ (Event.mk fF eH))),[],[]):=by
  refine aI bP YS (by simp [UP]) fun hw _=>?_
  simp only [iR,AV.wf,aY] at hw
  repeat' with_reducible first|refine aQ (fun h=>?_) (fun h=>?_)|refine bB (fun h=>?_) (fun h=>?_)|refine aF (fun h=>?_) (fun h=>?_)|refine aH (fun h=>?_) (fun h=>?_)|refine bJ ?_ ?_ ?_ ?_|refine aR ?_ ?_|refine bC ?_ ?_|refine bM ?_ ?_|refine P0 (iK ?_) ?_ ?_ ?_|refine F2 (iK ?_) ?_ ?_ ?_|refine F7 (iK ?_) ?_ ?_|simp -implicitDefEqProofs only [UP,qA,cS,cW,aJ,aP,qU,D1,D4,D5,D3,D0,D6,reduceIte,reduceCtorEq, *]
  all_goals first
    | (simp; done)
    | exact bE
    | exact bE.symm
    | grind [aY,bL,bI,eZ]

def VB:AFn:=⟨9,(.seq (.reg [o1 1 (.box 29 0),o1 2 (.alloc 29 [(.int .i64 0),.slnil])]) (.seq (.regT [o1 3 (.faddr 0 1),o1 4 (.ld 1 false 3),o1 5 (.faddr 1 1),o1 6 (.ld 1 false 5),o1 7 (.call 129 [6]),o1 8 (.build [(.int .i64 0),.slnil] [(0,1,4),(1,1,7)]),o2 (.st 2 2 8)] [(0,2),(1,2),(0,3),(1,3),(0,4),(1,4)]) .ret)),[(2,some (2,true))]⟩
theorem ZG:xf D8 90=some VB:=by kernel_rfl
theorem gU {fF:Int} {eH:List Int} (hl:eH.length≤100000000):cX D8 90 [.agg [.int .i64 fF,.slv 1 (eH.map aS)]] ((.agg (dO ((Event.mk fF eH)))),[],[]):=by
  refine aI bP ZG (by simp [VB]) fun hw _=>?_
  simp only [iR,AV.wf,aY] at hw
  repeat' with_reducible first|refine aQ (fun h=>?_) (fun h=>?_)|refine bB (fun h=>?_) (fun h=>?_)|refine aF (fun h=>?_) (fun h=>?_)|refine aH (fun h=>?_) (fun h=>?_)|refine bJ ?_ ?_ ?_ ?_|refine aR ?_ ?_|refine bC ?_ ?_|refine bM ?_ ?_|refine P0 (dR ?_) ?_ ?_ ?_|refine F2 (dR ?_) ?_ ?_ ?_|refine F7 (dR ?_) ?_ ?_|simp -implicitDefEqProofs only [VB,qA,cS,cW,aJ,aP,qU,D1,D4,D5,D3,D0,D6,reduceIte,reduceCtorEq,dO, *]
  all_goals first
    | (simp; done)
    | exact bE
    | exact bE.symm
    | grind [aY,bL,bI]

def CF:AFn:=⟨8,(.seq (.reg [o1 1 (.box 29 0),o1 2 (.mv (ci 0))]) (.seq (.seq (.reg [o1 3 (.ld 2 true 1),o1 4 (.call 55 [3]),o1 5 (.not 4)]) (.cond 5 (.seq (.reg [o1 2 (.mv (ci (-1)))]) .ret) .skip)) (.seq (.reg [o1 6 (.faddr 0 1),o1 7 (.ld 1 false 6),o1 2 (.mv 7)]) .ret))),[(2,none)]⟩
theorem SZ:xf D8 254=some CF:=by kernel_rfl
theorem xV {fF:Int} {eH:List Int} (hl:eH.length≤100000000):cX D8 254 [.agg [.int .i64 fF,.slv 1 (eH.map aS)]] ((.int .i64 (oC (Event.mk fF eH))),[],[]):=by
  refine aI bP SZ (by simp [CF]) fun hw _=>?_
  simp only [iR,AV.wf,aY] at hw
  repeat' with_reducible first|refine aQ (fun h=>?_) (fun h=>?_)|refine bB (fun h=>?_) (fun h=>?_)|refine aF (fun h=>?_) (fun h=>?_)|refine aH (fun h=>?_) (fun h=>?_)|refine bJ ?_ ?_ ?_ ?_|refine aR ?_ ?_|refine bC ?_ ?_|refine bM ?_ ?_|refine P0 (fT ?_) ?_ ?_ ?_|refine F2 (fT ?_) ?_ ?_ ?_|refine F7 (fT ?_) ?_ ?_|simp -implicitDefEqProofs only [CF,qA,cS,cW,aJ,aP,qU,D1,D4,D5,D3,D0,D6,reduceIte,reduceCtorEq, *]
  all_goals first
    | (simp; done)
    | exact bE
    | exact bE.symm
    | grind [aY,bL,bI,oC]

def CH:AFn:=⟨38,(.seq (.reg [o1 3 (.box 29 0),o1 6 (.alloc 29 [(.int .i64 0),.slnil]),o1 7 (.mv (.const (.bool false))),o1 8 (.mv (ci 0))]) (.seq (.seq (.reg [o1 11 (.ld 2 true 3),o1 12 (.call 55 [11]),o1 13 (.not 12)]) (.cond 13 (.seq (.reg [o1 14 (.ld 2 true 3),o1 15 (.call 90 [14]),o2 (.st 2 6 15),o1 7 (.mv (.const (.bool false))),o1 8 (.mv (ci 40))]) .ret) .skip)) (.seq (.reg [o1 17 (.faddr 1 3),o1 18 (.ld 1 false 17),o1 19 (.mv 2),o1 20 (.call 245 [18,19]),o1 16 (.mv 20),o1 21 (.ext 16 0),o1 22 (.ext 16 1),o1 9 (.mv 21),o1 10 (.mv 22)]) (.seq (.seq (.reg [o1 23 (.mv 10),o1 24 (.bin .neq 23 (ci 0)),o1 25 (.mv 24),o4 26 (.faddr 0 3) 25,o4 27 (.ld 1 false 26) 25,o4 28 (.mv 1) 25,o4 29 (.bin .neq 27 28) 25,o1 30 (.pick 25 (.const (.bool true)) 29)]) (.cond 30 (.seq (.reg [o1 31 (.ld 2 true 3),o1 32 (.call 90 [31]),o1 33 (.mv 10),o2 (.st 2 6 32),o1 7 (.mv (.const (.bool false))),o1 8 (.mv 33)]) .ret) .skip)) (.seq (.reg [o1 34 (.faddr 0 3),o1 35 (.ld 1 false 34),o1 36 (.mv 9),o1 37 (.build [(.int .i64 0),.slnil] [(0,1,35),(1,1,36)]),o2 (.st 2 6 37),o1 7 (.mv (.const (.bool true))),o1 8 (.mv (ci 0))]) .ret))))),[(6,some (2,true)),(7,none),(8,none)]⟩
theorem TB:xf D8 256=some CH:=by kernel_rfl
theorem xX {fF:Int} {eH:List Int} {seen id:Int} (hl:eH.length≤100000000):cX D8 256 [.agg [.int .i64 fF,.slv 1 (eH.map aS)],.int .i64 seen,.int .i64 id] ((.tup [.agg (dO ((kF (Event.mk fF eH) seen id).1)),.bool ((kF (Event.mk fF eH) seen id).2.1),.int .i64 ((kF (Event.mk fF eH) seen id).2.2)]),[],[]):=by
  refine aI bP TB (by simp [CH]) fun hw _=>?_
  simp only [iR,AV.wf,aY] at hw
  repeat' with_reducible first|refine aQ (fun h=>?_) (fun h=>?_)|refine bB (fun h=>?_) (fun h=>?_)|refine aF (fun h=>?_) (fun h=>?_)|refine aH (fun h=>?_) (fun h=>?_)|refine bJ ?_ ?_ ?_ ?_|refine aR ?_ ?_|refine bC ?_ ?_|refine bM ?_ ?_|refine P0 (fT ?_) ?_ ?_ ?_|refine F2 (fT ?_) ?_ ?_ ?_|refine F7 (fT ?_) ?_ ?_|refine P0 (gU ?_) ?_ ?_ ?_|refine F2 (gU ?_) ?_ ?_ ?_|refine F7 (gU ?_) ?_ ?_|refine P0 (qF ?_) ?_ ?_ ?_|refine F2 (qF ?_) ?_ ?_ ?_|refine F7 (qF ?_) ?_ ?_|simp -implicitDefEqProofs only [CH,qA,cS,cW,aJ,aP,qU,D1,D4,D5,D3,D0,D6,reduceIte,reduceCtorEq,dO, *]
  all_goals first
    | (simp; done)
    | exact bE
    | exact bE.symm
    | grind [aY,bL,bI,kF]

end Go.Sak
