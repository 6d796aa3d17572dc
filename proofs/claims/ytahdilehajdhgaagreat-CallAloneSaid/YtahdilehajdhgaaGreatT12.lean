/- Part T12 of the proofs about the program: K3, K4. Conditions: none. -/
import Derived.Test.YtahdilehajdhgaaGreatT11
open Go.Sak.ACV renaming of→F2
open Go.Sak.AV renaming tr→O3,wf→M5
open Int renaming natCast_zero→F1,toNat_natCast→E0
open List renaming cons_ne_nil→b9,drop_length→U9,length_map→G7,reduceReplicate→D1
open Nat renaming reduceAdd→D4,reduceEqDiff→D0,reduceLeDiff→D3,reduceMul→D6,reduceSub→D5,zero_le→M6
open Go.Proofs.Tryz renaming prog→D8
open Go.Sak.Wk renaming nil→P5,of_eq→H2
namespace Go.Sak
open Go Go.RowKit Go.Proofs
set_option linter.unusedVariables false
set_option linter.unusedSimpArgs false
set_option maxRecDepth 10000
set_option maxHeartbeats 8000000
def Pw:AFn:=⟨19,(.seq (.reg [o1 4 (.mv (ci 0))]) (.seq (.seq (.reg [o1 6 (.mv 0),o1 7 (.len 6),o1 8 (.mv (ci 0))]) (.block 0 (.loop (.seq (.reg [o1 9 (.bin .lss 8 7)]) (.seq (.cond 9 .skip (.exit 0)) (.seq (.block 1 (.seq (.reg [o1 10 (.mv 8),o1 5 (.mv 10)]) (.seq (.reg [o1 11 (.mv 1),o1 12 (.mv 0),o1 13 (.mv 5),o1 14 (.iaddr 1 12 13),o1 15 (.ld 1 false 14),o1 16 (.callv 11 [15])]) (.cond 16 (.seq (.reg [o1 17 (.mv 5),o1 4 (.mv 17)]) .ret) .skip)))) (.reg [o1 18 (.bin .add 8 (ci 1)),o1 8 (.mv 18)]))))))) (.seq (.reg [o1 4 (.mv (ci (-1)))]) .ret))),[(4,none)]⟩
theorem RX:xf D8 142=some Pw:=by kernel_rfl
theorem JT {g:FuncId} {caps:List AV} {p:Int→Bool} {l:List Int} (hp:pures caps=true) (hq:∀ x,x∈l→cX D8 g (.int .i64 x :: caps) (.bool (p x),[],[])):cX D8 142 [.slv 1 (l.map aS),.fn (.func g) [] caps] (.int .i64 (wS p l),[],[]):=by
  refine aI bP RX (by simp [Pw]) fun hw _=>?_
  simp only [iR,M5,aY,G7] at hw
  simp -implicitDefEqProofs only [Pw,qA,cS,cW,aJ,aP,qU,D1,D4,D5,D3,D0,D6,reduceIte,reduceCtorEq,aS,F1,E0,dQ _ _ hp,hp]
  refine xA (fun i:Nat=>[some (.slv 1 (l.map aS)),some (.fn (.func g) [] caps),none,none,none,none,none,some (.int .i64 l.length),some (.int .i64 i),none,none,none,none,none,none,none,none,none,none]) (fun i=>i≤l.length∧∀ j,j<i→p (l.getD j default)=false) (fun i=>l.length - i) 0 ?_ ?_ ?_ ?_ ?_
  rotate_right
  · intro i hJ
    simp only [dL,dK,all_nil]
    intros
    repeat' with_reducible first|refine aQ (fun h=>?_) (fun h=>?_)|refine bB (fun h=>?_) (fun h=>?_)|refine aF (fun h=>?_) (fun h=>?_)|refine aH (fun h=>?_) (fun h=>?_)|refine bJ ?_ ?_ ?_ ?_|refine aR ?_ ?_|refine bC ?_ ?_|refine bM ?_ ?_|refine AC.p0 (hq _ ?_) ?_ ?_ ?_ ?_|refine eK (d:=default) ?_ ?_|refine xD (i+1) ?_ ?_ ?_ ?_ ?_|simp -implicitDefEqProofs only [Pw,qA,cS,cW,aJ,aP,qU,D1,D4,D5,D3,D0,D6,reduceIte,reduceCtorEq,aS,F1,E0,dQ _ _ hp,hp, *]
    all_goals first
    | (simp; done)
    | exact mB (d:=default) (by grind) (by grind) (by assumption)
    | exact nN (d:=default) (fun j hj=>by grind)
    | grind [aY,bL,bI,iA]
  all_goals first
    | (simp; done)
    | (simp -implicitDefEqProofs only [Pw,qA,cS,cW,aJ,aP,qU,D1,D4,D5,D3,D0,D6,reduceIte,reduceCtorEq,aS,F1,E0,dQ _ _ hp,hp]; done)
    | exact mB (d:=default) (by grind) (by grind) (by assumption)
    | exact nN (d:=default) (fun j hj=>by grind)
    | grind [aY,bL,bI,iA]

def Pt:AFn:=⟨19,(.seq (.reg [o1 4 (.mv (ci 0))]) (.seq (.seq (.reg [o1 6 (.mv 0),o1 7 (.len 6),o1 8 (.mv (ci 0))]) (.block 0 (.loop (.seq (.reg [o1 9 (.bin .lss 8 7)]) (.seq (.cond 9 .skip (.exit 0)) (.seq (.block 1 (.seq (.reg [o1 10 (.mv 8),o1 5 (.mv 10)]) (.seq (.reg [o1 11 (.mv 1),o1 12 (.mv 0),o1 13 (.mv 5),o1 14 (.iaddr 11 12 13),o1 15 (.ld 11 true 14),o1 16 (.callv 11 [15])]) (.cond 16 (.seq (.reg [o1 17 (.mv 5),o1 4 (.mv 17)]) .ret) .skip)))) (.reg [o1 18 (.bin .add 8 (ci 1)),o1 8 (.mv 18)]))))))) (.seq (.reg [o1 4 (.mv (ci (-1)))]) .ret))),[(4,none)]⟩
theorem RJ:xf D8 102=some Pt:=by kernel_rfl
theorem JP {g:FuncId} {caps:List AV} {p:Thread→Bool} {l:List Thread} (hp:pures caps=true) (hq:∀ x,x∈l→cX D8 g (.agg (bH x) :: caps) (.bool (p x),[],[])):cX D8 102 [.slv 11 (l.map bH),.fn (.func g) [] caps] (.int .i64 (wS p l),[],[]):=by
  refine aI bP RJ (by simp [Pt]) fun hw _=>?_
  simp only [iR,M5,aY,G7] at hw
  simp -implicitDefEqProofs only [Pt,qA,cS,cW,aJ,aP,qU,D1,D4,D5,D3,D0,D6,reduceIte,reduceCtorEq,len_encT,mG,F1,E0,dQ _ _ hp,hp]
  refine xA (fun i:Nat=>[some (.slv 11 (l.map bH)),some (.fn (.func g) [] caps),none,none,none,none,none,some (.int .i64 l.length),some (.int .i64 i),none,none,none,none,none,none,none,none,none,none]) (fun i=>i≤l.length∧∀ j,j<i→p (l.getD j default)=false) (fun i=>l.length - i) 0 ?_ ?_ ?_ ?_ ?_
  rotate_right
  · intro i hJ
    simp only [dL,dK,all_nil]
    intros
    repeat' with_reducible first|refine aQ (fun h=>?_) (fun h=>?_)|refine bB (fun h=>?_) (fun h=>?_)|refine aF (fun h=>?_) (fun h=>?_)|refine aH (fun h=>?_) (fun h=>?_)|refine bJ ?_ ?_ ?_ ?_|refine aR ?_ ?_|refine bC ?_ ?_|refine bM ?_ ?_|refine AC.p0 (hq _ ?_) ?_ ?_ ?_ ?_|refine eK (d:=default) ?_ ?_|refine xD (i+1) ?_ ?_ ?_ ?_ ?_|simp -implicitDefEqProofs only [Pt,qA,cS,cW,aJ,aP,qU,D1,D4,D5,D3,D0,D6,reduceIte,reduceCtorEq,len_encT,mG,F1,E0,dQ _ _ hp,hp, *]
    all_goals first
    | (simp; done)
    | exact mB (d:=default) (by grind) (by grind) (by assumption)
    | exact nN (d:=default) (fun j hj=>by grind)
    | grind [aY,bL,bI,iA]
  all_goals first
    | (simp; done)
    | (simp -implicitDefEqProofs only [Pt,qA,cS,cW,aJ,aP,qU,D1,D4,D5,D3,D0,D6,reduceIte,reduceCtorEq,len_encT,mG,F1,E0,dQ _ _ hp,hp]; done)
    | exact mB (d:=default) (by grind) (by grind) (by assumption)
    | exact nN (d:=default) (fun j hj=>by grind)
    | grind [aY,bL,bI,iA]

def AS:AFn:=⟨9,(.seq (.reg [o1 4 (.mv (.const (.bool false)))]) (.seq (.reg [o1 5 (.mv 0),o1 6 (.mv 1),o1 7 (.call 142 [5,6]),o1 8 (.bin .geq 7 (ci 0)),o1 4 (.mv 8)]) .ret)),[(4,none)]⟩
theorem RI:xf D8 101=some AS:=by kernel_rfl
theorem Uk {g:FuncId} {caps:List AV} {p:Int→Bool} {l:List Int} (hp:pures caps=true) (hq:∀ x,x∈l→cX D8 g (.int .i64 x :: caps) (.bool (p x),[],[])):cX D8 101 [.slv 1 (l.map aS),.fn (.func g) [] caps] (.bool (l.any p),[],[]):=by
  refine aI bP RI (by simp [AS]) fun hw _=>?_
  simp only [iR,M5,aY,G7] at hw
  repeat' with_reducible first|refine aQ (fun h=>?_) (fun h=>?_)|refine bB (fun h=>?_) (fun h=>?_)|refine aF (fun h=>?_) (fun h=>?_)|refine aH (fun h=>?_) (fun h=>?_)|refine bJ ?_ ?_ ?_ ?_|refine aR ?_ ?_|refine bC ?_ ?_|refine bM ?_ ?_|refine AC.p0 (JT hp hq) ?_ ?_ ?_ ?_|simp -implicitDefEqProofs only [AS,qA,cS,cW,aJ,aP,qU,D1,D4,D5,D3,D0,D6,reduceIte,reduceCtorEq,dQ _ _ hp,hp, *]
  all_goals first
    | (simp; done)
    | exact bE.symm
    | exact bE

def UQ:AFn:=⟨9,(.seq (.reg [o1 4 (.mv (.const (.bool false)))]) (.seq (.reg [o1 5 (.mv 0),o1 6 (.mv 1),o1 7 (.call 102 [5,6]),o1 8 (.bin .geq 7 (ci 0)),o1 4 (.mv 8)]) .ret)),[(4,none)]⟩
theorem YT:xf D8 56=some UQ:=by kernel_rfl
theorem OG {g:FuncId} {caps:List AV} {p:Thread→Bool} {l:List Thread} (hp:pures caps=true) (hq:∀ x,x∈l→cX D8 g (.agg (bH x) :: caps) (.bool (p x),[],[])):cX D8 56 [.slv 11 (l.map bH),.fn (.func g) [] caps] (.bool (l.any p),[],[]):=by
  refine aI bP YT (by simp [UQ]) fun hw _=>?_
  simp only [iR,M5,aY,G7] at hw
  repeat' with_reducible first|refine aQ (fun h=>?_) (fun h=>?_)|refine bB (fun h=>?_) (fun h=>?_)|refine aF (fun h=>?_) (fun h=>?_)|refine aH (fun h=>?_) (fun h=>?_)|refine bJ ?_ ?_ ?_ ?_|refine aR ?_ ?_|refine bC ?_ ?_|refine bM ?_ ?_|refine AC.p0 (JP hp hq) ?_ ?_ ?_ ?_|simp -implicitDefEqProofs only [UQ,qA,cS,cW,aJ,aP,qU,D1,D4,D5,D3,D0,D6,reduceIte,reduceCtorEq,dQ _ _ hp,hp, *]
  all_goals first
    | (simp; done)
    | exact bE.symm
    | exact bE

def Px:AFn:=⟨19,(.seq (.reg [o1 4 (.mv (ci 0))]) (.seq (.seq (.reg [o1 6 (.mv 0),o1 7 (.len 6),o1 8 (.mv (ci 0))]) (.block 0 (.loop (.seq (.reg [o1 9 (.bin .lss 8 7)]) (.seq (.cond 9 .skip (.exit 0)) (.seq (.block 1 (.seq (.reg [o1 10 (.mv 8),o1 5 (.mv 10)]) (.seq (.reg [o1 11 (.mv 1),o1 12 (.mv 0),o1 13 (.mv 5),o1 14 (.iaddr 1 12 13),o1 15 (.ld 1 false 14),o1 16 (.bin .eql 11 15)]) (.cond 16 (.seq (.reg [o1 17 (.mv 5),o1 4 (.mv 17)]) .ret) .skip)))) (.reg [o1 18 (.bin .add 8 (ci 1)),o1 8 (.mv 18)]))))))) (.seq (.reg [o1 4 (.mv (ci (-1)))]) .ret))),[(4,none)]⟩
theorem SC:xf D8 195=some Px:=by kernel_rfl
theorem xT {x:Int} {l:List Int}:cX D8 195 [.slv 1 (l.map aS),.int .i64 x] (.int .i64 (wS (fun y=>decide (x=y)) l),[],[]):=by
  refine aI bP SC (by simp [Px]) fun hw _=>?_
  simp only [iR,M5,aY,G7] at hw
  simp -implicitDefEqProofs only [Px,qA,cS,cW,aJ,aP,qU,D1,D4,D5,D3,D0,D6,reduceIte,reduceCtorEq,aS,E0,F1]
  refine xA (fun i:Nat=>[some (.slv 1 (l.map aS)),some (.int .i64 x),none,none,none,none,none,some (.int .i64 l.length),some (.int .i64 i),none,none,none,none,none,none,none,none,none,none]) (fun i=>i≤l.length∧∀ j,j<i→(fun y=>decide (x=y)) (l.getD j default)=false) (fun i=>l.length - i) 0 ?_ ?_ ?_ ?_ ?_
  rotate_right
  · intro i hJ
    simp only [dL,dK,all_nil]
    intros
    repeat' with_reducible first|refine aQ (fun h=>?_) (fun h=>?_)|refine bB (fun h=>?_) (fun h=>?_)|refine aF (fun h=>?_) (fun h=>?_)|refine aH (fun h=>?_) (fun h=>?_)|refine bJ ?_ ?_ ?_ ?_|refine aR ?_ ?_|refine bC ?_ ?_|refine bM ?_ ?_|refine eK (d:=default) ?_ ?_|refine xD (i+1) ?_ ?_ ?_ ?_ ?_|simp -implicitDefEqProofs only [Px,qA,cS,cW,aJ,aP,qU,D1,D4,D5,D3,D0,D6,reduceIte,reduceCtorEq,aS,E0,F1, *]
    all_goals first
    | (simp; done)
    | exact mB (d:=default) (by grind) (by grind) (by assumption)
    | exact nN (d:=default) (fun j hj=>by grind)
    | grind [aY,bL,bI,iA]
  all_goals first
    | (simp; done)
    | (simp -implicitDefEqProofs only [Px,qA,cS,cW,aJ,aP,qU,D1,D4,D5,D3,D0,D6,reduceIte,reduceCtorEq,aS,E0,F1]; done)
    | exact mB (d:=default) (by grind) (by grind) (by assumption)
    | exact nN (d:=default) (fun j hj=>by grind)
    | grind [aY,bL,bI,iA]

def BJ:AFn:=⟨9,(.seq (.reg [o1 4 (.mv (.const (.bool false)))]) (.seq (.reg [o1 5 (.mv 0),o1 6 (.mv 1),o1 7 (.call 195 [5,6]),o1 8 (.bin .geq 7 (ci 0)),o1 4 (.mv 8)]) .ret)),[(4,none)]⟩
theorem SD:xf D8 196=some BJ:=by kernel_rfl
theorem Fw {x:Int} {l:List Int}:cX D8 196 [.slv 1 (l.map aS),.int .i64 x] ((.bool (l.any (fun y=>decide (x=y)))),[],[]):=by
  refine aI bP SD (by simp [BJ]) fun hw _=>?_
  simp only [iR,M5,aY] at hw
  repeat' with_reducible first|refine aQ (fun h=>?_) (fun h=>?_)|refine bB (fun h=>?_) (fun h=>?_)|refine aF (fun h=>?_) (fun h=>?_)|refine aH (fun h=>?_) (fun h=>?_)|refine bJ ?_ ?_ ?_ ?_|refine aR ?_ ?_|refine bC ?_ ?_|refine bM ?_ ?_|refine P0 (xT) ?_ ?_ ?_|refine F2 (xT) ?_ ?_ ?_|refine ACK.of (xT) ?_ ?_|simp -implicitDefEqProofs only [BJ,qA,cS,cW,aJ,aP,qU,D1,D4,D5,D3,D0,D6,reduceIte,reduceCtorEq, *]
  all_goals first
    | (simp; done)
    | exact bE
    | exact bE.symm
    | grind [aY,bL,bI,bE]

def BC:AFn:=⟨9,(.seq (.reg [o1 2 (.mv (.const (.bool false)))]) (.seq (.reg [o1 3 (.mv 0),o1 4 (.bin .lss 3 (ci 0)),o1 5 (.mv 4),o4 6 (.mv 0) 5,o4 7 (.bin .geq 6 (ci 16)) 5,o1 8 (.pick 5 (.const (.bool true)) 7),o1 2 (.mv 8)]) .ret)),[(2,none)]⟩
theorem RV:xf D8 140=some BC:=by kernel_rfl
theorem JS {x:Int}  : cX D8 140 [.int .i64 x] ((.bool (Ce x)),[],[]):=by
  refine aI bP RV (by simp [BC]) fun hw _=>?_
  simp only [iR,M5,aY] at hw
  repeat' with_reducible first|refine aQ (fun h=>?_) (fun h=>?_)|refine bB (fun h=>?_) (fun h=>?_)|refine aF (fun h=>?_) (fun h=>?_)|refine aH (fun h=>?_) (fun h=>?_)|refine bJ ?_ ?_ ?_ ?_|refine aR ?_ ?_|refine bC ?_ ?_|refine bM ?_ ?_|simp -implicitDefEqProofs only [BC,qA,cS,cW,aJ,aP,qU,D1,D4,D5,D3,D0,D6,reduceIte,reduceCtorEq, *]
  all_goals first
    | (simp; done)
    | exact bE
    | exact bE.symm
    | grind [aY,bL,bI,Ce]

def zR:AFn:=⟨8,(.seq (.reg [o1 2 (.mv (.const .slnil))]) (.seq (.seq (.reg [o1 3 (.mv 0),o1 4 (.eqn false 3)]) (.cond 4 (.seq (.reg [o1 2 (.mv (.const .slnil))]) .ret) .skip)) (.seq (.reg [o1 5 (.bslice 3 1 0 []),o1 6 (.mv 0),o1 7 (.app 3 1 8 5 6),o1 2 (.mv 7)]) .ret))),[(2,none)]⟩
theorem Th:xf D8 129=some zR:=by kernel_rfl
theorem dR {l:List Int} (hl:l.length≤1000000000):cX D8 129 [.slv 1 (l.map aS)] (.slv 1 (l.map aS),[],[]):=by
  cases l with
  | nil =>
    refine tR ?_ ?_
    all_goals refine aI bP Th (by simp [zR]) fun hw _=>?_
    repeat' with_reducible first|refine aQ (fun h=>?_) (fun h=>?_)|refine bB (fun h=>?_) (fun h=>?_)|refine aF (fun h=>?_) (fun h=>?_)|refine aH (fun h=>?_) (fun h=>?_)|refine iW ?_ ?_ ?_ rfl ?_|refine aR ?_ ?_|refine bC ?_ ?_|refine bM ?_ ?_|refine eM (eW _ _ _) (m_get_same _ _ _) rfl ?_ ?_ ?_|refine eM (iP _ _) (m_get_same _ _ _) rfl ?_ ?_ ?_|refine eM (iQ _ _ _) (m_get_same _ _ _) rfl ?_ ?_ ?_|simp -implicitDefEqProofs only [zR,qA,cS,cW,aJ,aP,qU,D1,D4,D5,D3,D0,D6,reduceIte,reduceCtorEq,jU,jV,iH,sW,sX,bY,iP,iQ,eW, *]
    all_goals first
      | exact P5 _
      | (simp [jG,puress,pure_encI,bQ pure_encI]; done)
      | (simp at hl ⊢; omega)
      | (refine H2 ?_; simp [stT,O3,frzS,AM.get,take_mapl]; done)
  | cons x l =>
    refine aI bP Th (by simp [zR]) fun hw _=>?_
    repeat' with_reducible first|refine aQ (fun h=>?_) (fun h=>?_)|refine bB (fun h=>?_) (fun h=>?_)|refine aF (fun h=>?_) (fun h=>?_)|refine aH (fun h=>?_) (fun h=>?_)|refine iW ?_ ?_ ?_ rfl ?_|refine aR ?_ ?_|refine bC ?_ ?_|refine bM ?_ ?_|refine eM (eW _ _ _) (m_get_same _ _ _) rfl ?_ ?_ ?_|refine eM (iP _ _) (m_get_same _ _ _) rfl ?_ ?_ ?_|refine eM (iQ _ _ _) (m_get_same _ _ _) rfl ?_ ?_ ?_|simp -implicitDefEqProofs only [zR,qA,cS,cW,aJ,aP,qU,D1,D4,D5,D3,D0,D6,reduceIte,reduceCtorEq,jU,jV,iH,sW,sX,bY,iP,iQ,eW, *]
    all_goals first
      | exact P5 _
      | (simp [jG,puress,pure_encI,bQ pure_encI]; done)
      | (simp at hl ⊢; omega)
      | (refine H2 ?_; simp [stT,O3,frzS,AM.get,take_mapl]; done)

def Hj:AFn:=⟨8,(.seq (.reg [o1 2 (.mv (.const .slnil))]) (.seq (.seq (.reg [o1 3 (.mv 0),o1 4 (.eqn false 3)]) (.cond 4 (.seq (.reg [o1 2 (.mv (.const .slnil))]) .ret) .skip)) (.seq (.reg [o1 5 (.bslice 42 11 0 []),o1 6 (.mv 0),o1 7 (.app 42 11 88 5 6),o1 2 (.mv 7)]) .ret))),[(2,none)]⟩
theorem HG:xf D8 130=some Hj:=by kernel_rfl
theorem pY {l:List Thread} (hl:l.length≤1000000000):cX D8 130 [.slv 11 (l.map bH)] (.slv 11 (l.map bH),[],[]):=by
  cases l with
  | nil =>
    refine tR ?_ ?_
    all_goals refine aI bP HG (by simp [Hj]) fun hw _=>?_
    repeat' with_reducible first|refine aQ (fun h=>?_) (fun h=>?_)|refine bB (fun h=>?_) (fun h=>?_)|refine aF (fun h=>?_) (fun h=>?_)|refine aH (fun h=>?_) (fun h=>?_)|refine iW ?_ ?_ ?_ rfl ?_|refine aR ?_ ?_|refine bC ?_ ?_|refine bM ?_ ?_|refine eM (eW _ _ _) (m_get_same _ _ _) rfl ?_ ?_ ?_|refine eM (iP _ _) (m_get_same _ _ _) rfl ?_ ?_ ?_|refine eM (iQ _ _ _) (m_get_same _ _ _) rfl ?_ ?_ ?_|simp -implicitDefEqProofs only [Hj,qA,cS,cW,aJ,aP,qU,D1,D4,D5,D3,D0,D6,reduceIte,reduceCtorEq,jU,jV,iH,sW,sX,bY,iP,iQ,eW, *]
    all_goals first
      | exact P5 _
      | (simp [jG,puress,pure_encT,bQ pure_encT]; done)
      | (simp at hl ⊢; omega)
      | (refine H2 ?_; simp [stT,O3,frzS,AM.get,take_mapl]; done)
  | cons x l =>
    refine aI bP HG (by simp [Hj]) fun hw _=>?_
    repeat' with_reducible first|refine aQ (fun h=>?_) (fun h=>?_)|refine bB (fun h=>?_) (fun h=>?_)|refine aF (fun h=>?_) (fun h=>?_)|refine aH (fun h=>?_) (fun h=>?_)|refine iW ?_ ?_ ?_ rfl ?_|refine aR ?_ ?_|refine bC ?_ ?_|refine bM ?_ ?_|refine eM (eW _ _ _) (m_get_same _ _ _) rfl ?_ ?_ ?_|refine eM (iP _ _) (m_get_same _ _ _) rfl ?_ ?_ ?_|refine eM (iQ _ _ _) (m_get_same _ _ _) rfl ?_ ?_ ?_|simp -implicitDefEqProofs only [Hj,qA,cS,cW,aJ,aP,qU,D1,D4,D5,D3,D0,D6,reduceIte,reduceCtorEq,jU,jV,iH,sW,sX,bY,iP,iQ,eW, *]
    all_goals first
      | exact P5 _
      | (simp [jG,puress,pure_encT,bQ pure_encT]; done)
      | (simp at hl ⊢; omega)
      | (refine H2 ?_; simp [stT,O3,frzS,AM.get,take_mapl]; done)

def Pu:AFn:=⟨8,(.seq (.reg [o1 2 (.mv (.const .slnil))]) (.seq (.seq (.reg [o1 3 (.mv 0),o1 4 (.eqn false 3)]) (.cond 4 (.seq (.reg [o1 2 (.mv (.const .slnil))]) .ret) .skip)) (.seq (.reg [o1 5 (.bslice 107 2 0 []),o1 6 (.mv 0),o1 7 (.app 107 2 16 5 6),o1 2 (.mv 7)]) .ret))),[(2,none)]⟩
theorem MM:xf D8 128=some Pu:=by kernel_rfl
theorem eV {l:List Slot} (hl:l.length≤1000000000):cX D8 128 [.slv 2 (l.map cU)] (.slv 2 (l.map cU),[],[]):=by
  cases l with
  | nil =>
    refine tR ?_ ?_
    all_goals refine aI bP MM (by simp [Pu]) fun hw _=>?_
    repeat' with_reducible first|refine aQ (fun h=>?_) (fun h=>?_)|refine bB (fun h=>?_) (fun h=>?_)|refine aF (fun h=>?_) (fun h=>?_)|refine aH (fun h=>?_) (fun h=>?_)|refine iW ?_ ?_ ?_ rfl ?_|refine aR ?_ ?_|refine bC ?_ ?_|refine bM ?_ ?_|refine eM (eW _ _ _) (m_get_same _ _ _) rfl ?_ ?_ ?_|refine eM (iP _ _) (m_get_same _ _ _) rfl ?_ ?_ ?_|refine eM (iQ _ _ _) (m_get_same _ _ _) rfl ?_ ?_ ?_|simp -implicitDefEqProofs only [Pu,qA,cS,cW,aJ,aP,qU,D1,D4,D5,D3,D0,D6,reduceIte,reduceCtorEq,jU,jV,iH,sW,sX,bY,iP,iQ,eW, *]
    all_goals first
      | exact P5 _
      | (simp [jG,puress,pure_encS,bQ pure_encS]; done)
      | (simp at hl ⊢; omega)
      | (refine H2 ?_; simp [stT,O3,frzS,AM.get,take_mapl]; done)
  | cons x l =>
    refine aI bP MM (by simp [Pu]) fun hw _=>?_
    repeat' with_reducible first|refine aQ (fun h=>?_) (fun h=>?_)|refine bB (fun h=>?_) (fun h=>?_)|refine aF (fun h=>?_) (fun h=>?_)|refine aH (fun h=>?_) (fun h=>?_)|refine iW ?_ ?_ ?_ rfl ?_|refine aR ?_ ?_|refine bC ?_ ?_|refine bM ?_ ?_|refine eM (eW _ _ _) (m_get_same _ _ _) rfl ?_ ?_ ?_|refine eM (iP _ _) (m_get_same _ _ _) rfl ?_ ?_ ?_|refine eM (iQ _ _ _) (m_get_same _ _ _) rfl ?_ ?_ ?_|simp -implicitDefEqProofs only [Pu,qA,cS,cW,aJ,aP,qU,D1,D4,D5,D3,D0,D6,reduceIte,reduceCtorEq,jU,jV,iH,sW,sX,bY,iP,iQ,eW, *]
    all_goals first
      | exact P5 _
      | (simp [jG,puress,pure_encS,bQ pure_encS]; done)
      | (simp at hl ⊢; omega)
      | (refine H2 ?_; simp [stT,O3,frzS,AM.get,take_mapl]; done)

def zS:AFn:=⟨8,(.seq (.reg [o1 2 (.mv (.const .slnil))]) (.seq (.seq (.reg [o1 3 (.mv 0),o1 4 (.eqn false 3)]) (.cond 4 (.seq (.reg [o1 2 (.mv (.const .slnil))]) .ret) .skip)) (.seq (.reg [o1 5 (.bslice 109 5 0 []),o1 6 (.mv 0),o1 7 (.app 109 5 40 5 6),o1 2 (.mv 7)]) .ret))),[(2,none)]⟩
theorem Ti:xf D8 131=some zS:=by kernel_rfl
theorem gW {l:List Entry} (hl:l.length≤1000000000):cX D8 131 [.slv 5 (l.map cO)] (.slv 5 (l.map cO),[],[]):=by
  cases l with
  | nil =>
    refine tR ?_ ?_
    all_goals refine aI bP Ti (by simp [zS]) fun hw _=>?_
    repeat' with_reducible first|refine aQ (fun h=>?_) (fun h=>?_)|refine bB (fun h=>?_) (fun h=>?_)|refine aF (fun h=>?_) (fun h=>?_)|refine aH (fun h=>?_) (fun h=>?_)|refine iW ?_ ?_ ?_ rfl ?_|refine aR ?_ ?_|refine bC ?_ ?_|refine bM ?_ ?_|refine eM (eW _ _ _) (m_get_same _ _ _) rfl ?_ ?_ ?_|refine eM (iP _ _) (m_get_same _ _ _) rfl ?_ ?_ ?_|refine eM (iQ _ _ _) (m_get_same _ _ _) rfl ?_ ?_ ?_|simp -implicitDefEqProofs only [zS,qA,cS,cW,aJ,aP,qU,D1,D4,D5,D3,D0,D6,reduceIte,reduceCtorEq,jU,jV,iH,sW,sX,bY,iP,iQ,eW, *]
    all_goals first
      | exact P5 _
      | (simp [jG,puress,pure_encE,bQ pure_encE]; done)
      | (simp at hl ⊢; omega)
      | (refine H2 ?_; simp [stT,O3,frzS,AM.get,take_mapl]; done)
  | cons x l =>
    refine aI bP Ti (by simp [zS]) fun hw _=>?_
    repeat' with_reducible first|refine aQ (fun h=>?_) (fun h=>?_)|refine bB (fun h=>?_) (fun h=>?_)|refine aF (fun h=>?_) (fun h=>?_)|refine aH (fun h=>?_) (fun h=>?_)|refine iW ?_ ?_ ?_ rfl ?_|refine aR ?_ ?_|refine bC ?_ ?_|refine bM ?_ ?_|refine eM (eW _ _ _) (m_get_same _ _ _) rfl ?_ ?_ ?_|refine eM (iP _ _) (m_get_same _ _ _) rfl ?_ ?_ ?_|refine eM (iQ _ _ _) (m_get_same _ _ _) rfl ?_ ?_ ?_|simp -implicitDefEqProofs only [zS,qA,cS,cW,aJ,aP,qU,D1,D4,D5,D3,D0,D6,reduceIte,reduceCtorEq,jU,jV,iH,sW,sX,bY,iP,iQ,eW, *]
    all_goals first
      | exact P5 _
      | (simp [jG,puress,pure_encE,bQ pure_encE]; done)
      | (simp at hl ⊢; omega)
      | (refine H2 ?_; simp [stT,O3,frzS,AM.get,take_mapl]; done)

set_option maxHeartbeats 8000000
def Pv:AFn:=⟨21,(.seq (.reg [o1 2 (.mv (.const .slnil))]) (.seq (.seq (.reg [o1 5 (.mv 0),o1 6 (.len 5),o1 7 (.mv (ci 0))]) (.block 0 (.loop (.seq (.reg [o1 8 (.bin .lss 7 6)]) (.seq (.cond 8 .skip (.exit 0)) (.seq (.block 1 (.seq (.reg [o1 9 (.iaddr 1 5 7),o1 10 (.ld 1 false 9),o1 4 (.mv 10)]) (.seq (.reg [o1 11 (.mv 2),o1 12 (.mv 4),o1 13 (.call 196 [11,12]),o1 14 (.not 13)]) (.cond 14 (.reg [o1 15 (.mv 2),o1 16 (.mv 4),o1 17 (.bslice 3 1 1 [16]),o1 18 (.app 3 1 8 15 17),o1 2 (.mv 18)]) .skip)))) (.reg [o1 19 (.bin .add 7 (ci 1)),o1 7 (.mv 19)]))))))) (.seq (.reg [o1 20 (.mv 2),o1 2 (.mv 20)]) .ret))),[(2,none)]⟩
theorem RW:xf D8 141=some Pv:=by kernel_rfl
theorem Kt {l:List Int} (hl:l.length≤1000000000):cX D8 141 [.slv 1 (l.map aS)] (.slv 1 ((lU [] l).map aS),[],[]):=by
  refine aI bP RW (by simp [Pv]) fun hw _=>?_
  simp only [iR,M5,aY,G7] at hw
  simp -implicitDefEqProofs only [Pv,qA,cS,cW,aJ,aP,qU,D1,D4,D5,D3,D0,D6,reduceIte,reduceCtorEq,aS,E0,F1,bS,cJ,cY,eW,bY,M6,if_pos rfl,b9,take_mapl,G7]
  refine oN 4 (fun s:Nat×List Int=>[some (.slv 1 (l.map aS)),none,some (if s.2=[] then .slnil else .slm 2 s.2.length),none,none,some (.slv 1 (l.map aS)),some (.int .i64 l.length),some (.int .i64 s.1),none,none,none,none,none,none,none,none,none,none,none,none,none]) (fun s=>if s.2=[] then [] else [(2,.rows 3 1 (s.2.map aS))]) (fun s=>s.1≤l.length∧s.2.length≤s.1∧lU s.2 (l.drop s.1)=lU [] l) (fun s=>l.length - s.1) [] [] (0,[]) (by omega) ?_ ?_ ?_ ?_ ?_ ?_
  rotate_right
  · rintro ⟨i,out⟩ ⟨hJ1,hJ2,hJ3⟩
    simp only [dL,dK,all_nil]
    intros
    by_cases hne:out=[]
    · subst hne
      simp -implicitDefEqProofs only [if_true]
      simp only [] at hJ1 hJ2 hJ3
      repeat' with_reducible first|refine aQ (fun h=>?_) (fun h=>?_)|refine bB (fun h=>?_) (fun h=>?_)|refine aF (fun h=>?_) (fun h=>?_)|refine aH (fun h=>?_) (fun h=>?_)|refine iW ?_ ?_ ?_ rfl ?_|refine aR ?_ ?_|refine bC ?_ ?_|refine bM ?_ ?_|refine eK (d:=default) ?_ ?_|refine AC.view [2] ?_ ?_ ?_|refine F2 (Fw (l:=o :: out)) ?_ ?_ ?_|refine F2 (sN (Fw (l:=[]))) ?_ ?_ ?_|simp -implicitDefEqProofs only [Pv,qA,cS,cW,aJ,aP,qU,D1,D4,D5,D3,D0,D6,reduceIte,reduceCtorEq,aS,E0,F1,bS,cJ,cY,eW,bY,M6,if_pos rfl,b9,take_mapl,G7, *]
      all_goals first
        | (simp; done)
        | (refine gV [] [(180,2)] (i+1,[l.getD i default]) ?_ ?_ ?_ ?_ ?_ ?_ <;> first | (simp [stOk,fS,stM,nameT,lk,Blk.tr,dC,trss,trs,O3,aS,eB _ pure_encI]; done) | (simp [trs,O3,Mt,eB _ pure_encI,stT,nameT,lk]; grind [bL,bI]) | grind [tV])
        | (refine gV [] [] (i+1,[]) ?_ ?_ ?_ ?_ ?_ ?_ <;> first | (simp [stOk,fS,stM,nameT,lk,Blk.tr,dC,trss,trs,O3,aS,eB _ pure_encI]; done) | (simp [trs,O3,Mt,eB _ pure_encI,stT,nameT,lk]; grind [bL,bI]) | grind [tV])
        | (refine gV [] [(2,2)] (i+1,[]) ?_ ?_ ?_ ?_ ?_ ?_ <;> first | (simp [stOk,fS,stM,nameT,lk,Blk.tr,dC,trss,trs,O3,aS,eB _ pure_encI]; done) | (simp [trs,O3,Mt,eB _ pure_encI,stT,nameT,lk]; grind [bL,bI]) | grind [tV])
        | (simp [jG,bQ pure_encI]; done)
        | (have hi:i=l.length:=by grind
           subst hi
           simp only [U9,lU] at hJ3
           rw [← hJ3]
           first | exact P5 _ | (refine H2 ?_; simp [take_mapl]; done))
        | grind [aY,bL,bI,lU,U9]
        | skip
    · simp -implicitDefEqProofs only [if_neg hne]
      simp only [] at hJ1 hJ2 hJ3
      repeat' with_reducible first|refine aQ (fun h=>?_) (fun h=>?_)|refine bB (fun h=>?_) (fun h=>?_)|refine aF (fun h=>?_) (fun h=>?_)|refine aH (fun h=>?_) (fun h=>?_)|refine iW ?_ ?_ ?_ rfl ?_|refine aR ?_ ?_|refine bC ?_ ?_|refine bM ?_ ?_|refine eK (d:=default) ?_ ?_|refine AC.view [2] ?_ ?_ ?_|refine F2 (Fw (l:=out)) ?_ ?_ ?_|refine F2 (sN (Fw (l:=[]))) ?_ ?_ ?_|simp -implicitDefEqProofs only [Pv,qA,cS,cW,aJ,aP,qU,D1,D4,D5,D3,D0,D6,reduceIte,reduceCtorEq,aS,E0,F1,bS,cJ,cY,eW,bY,M6,if_pos rfl,b9,take_mapl,G7, *]
      all_goals first
        | (simp; done)
        | (refine gV [] [(180,2)] (i+1,out ++ [l.getD i default]) ?_ ?_ ?_ ?_ ?_ ?_ <;> first | (simp [stOk,fS,stM,nameT,lk,Blk.tr,dC,trss,trs,O3,aS,eB _ pure_encI,hne]; done) | (simp [trs,O3,Mt,eB _ pure_encI,stT,nameT,lk,hne]; grind [bL,bI]) | grind [tV])
        | (refine gV [] [] (i+1,[]) ?_ ?_ ?_ ?_ ?_ ?_ <;> first | (simp [stOk,fS,stM,nameT,lk,Blk.tr,dC,trss,trs,O3,aS,eB _ pure_encI,hne]; done) | (simp [trs,O3,Mt,eB _ pure_encI,stT,nameT,lk,hne]; grind [bL,bI]) | grind [tV])
        | (refine gV [] [(2,2)] (i+1,out) ?_ ?_ ?_ ?_ ?_ ?_ <;> first | (simp [stOk,fS,stM,nameT,lk,Blk.tr,dC,trss,trs,O3,aS,eB _ pure_encI,hne]; done) | (simp [trs,O3,Mt,eB _ pure_encI,stT,nameT,lk,hne]; grind [bL,bI]) | grind [tV])
        | (simp [jG,bQ pure_encI]; done)
        | (have hi:i=l.length:=by grind
           subst hi
           simp only [U9,lU] at hJ3
           rw [← hJ3]
           first | exact P5 _ | (refine H2 ?_; simp [take_mapl]; done))
        | grind [aY,bL,bI,lU,U9]
        | skip
  all_goals first
    | (simp; done)
    | (simp [stOk,fS,stM,trs,O3,Mt,eB _ pure_encI]; done)

def AR:AFn:=⟨16,(.seq (.reg [o1 2 (.mv (.const (.bool false)))]) (.seq (.reg [o1 3 (.mv (.func 140))]) (.seq (.reg [o1 4 (.mv 0),o1 5 (.mv 3),o1 6 (.call 101 [4,5]),o1 7 (.not 6),o1 8 (.mv 7),o3 9 (.mv 0) 8,o3 10 (.call 141 [9]) 8,o3 11 (.len 10) 8,o3 12 (.mv 0) 8,o3 13 (.len 12) 8,o3 14 (.bin .eql 11 13) 8,o1 15 (.pick 8 14 (.const (.bool false))),o1 2 (.mv 15)]) .ret))),[(2,none)]⟩
theorem RH:xf D8 100=some AR:=by kernel_rfl
theorem iK  {l:List Int} (hl:l.length≤1000000000):cX D8 100 [.slv 1 (l.map aS)] ((.bool (gX l)),[],[]):=by
  refine aI bP RH (by simp [AR]) fun hw _=>?_
  simp only [iR,M5,aY] at hw
  repeat' with_reducible first|refine aQ (fun h=>?_) (fun h=>?_)|refine bB (fun h=>?_) (fun h=>?_)|refine aF (fun h=>?_) (fun h=>?_)|refine aH (fun h=>?_) (fun h=>?_)|refine bJ ?_ ?_ ?_ ?_|refine aR ?_ ?_|refine bC ?_ ?_|refine bM ?_ ?_|refine P0 (Uk (p:=Ce) (caps:=[]) rfl (fun x _=>JS)) ?_ ?_ ?_|refine P0 (Kt ?_) ?_ ?_ ?_|refine F2 (Kt ?_) ?_ ?_ ?_|refine ACK.of (Kt ?_) ?_ ?_|simp -implicitDefEqProofs only [AR,qA,cS,cW,aJ,aP,qU,D1,D4,D5,D3,D0,D6,reduceIte,reduceCtorEq, *]
  all_goals first
    | (simp; done)
    | exact bE
    | exact bE.symm
    | grind [aY,bL,bI,gX]

def BA:AFn:=⟨11,(.seq (.reg [o1 4 (.mv (ci 0))]) (.seq (.seq (.reg [o1 5 (.mv 0),o1 6 (.call 100 [5]),o1 7 (.not 6)]) (.cond 7 (.seq (.reg [o1 4 (.mv (ci (-1)))]) .ret) .skip)) (.seq (.reg [o1 8 (.mv 0),o1 9 (.mv 1),o1 10 (.call 195 [8,9]),o1 4 (.mv 10)]) .ret))),[(4,none)]⟩
theorem RT:xf D8 137=some BA:=by kernel_rfl
theorem iV {id:Int} {l:List Int} (hl:l.length≤1000000000):cX D8 137 [.slv 1 (l.map aS),.int .i64 id] ((.int .i64 (gY l id)),[],[]):=by
  refine aI bP RT (by simp [BA]) fun hw _=>?_
  simp only [iR,M5,aY] at hw
  repeat' with_reducible first|refine aQ (fun h=>?_) (fun h=>?_)|refine bB (fun h=>?_) (fun h=>?_)|refine aF (fun h=>?_) (fun h=>?_)|refine aH (fun h=>?_) (fun h=>?_)|refine bJ ?_ ?_ ?_ ?_|refine aR ?_ ?_|refine bC ?_ ?_|refine bM ?_ ?_|refine P0 (iK ?_) ?_ ?_ ?_|refine F2 (iK ?_) ?_ ?_ ?_|refine ACK.of (iK ?_) ?_ ?_|refine P0 (xT) ?_ ?_ ?_|refine F2 (xT) ?_ ?_ ?_|refine ACK.of (xT) ?_ ?_|simp -implicitDefEqProofs only [BA,qA,cS,cW,aJ,aP,qU,D1,D4,D5,D3,D0,D6,reduceIte,reduceCtorEq, *]
  all_goals first
    | (simp; done)
    | exact bE
    | exact bE.symm
    | grind [aY,bL,bI,gY]

def CC:AFn:=⟨9,(.seq (.reg [o1 4 (.mv (.const (.bool false)))]) (.seq (.reg [o1 5 (.mv 0),o1 6 (.mv 1),o1 7 (.call 137 [5,6]),o1 8 (.bin .eql 7 (ci 0)),o1 4 (.mv 8)]) .ret)),[(4,none)]⟩
theorem SV:xf D8 247=some CC:=by kernel_rfl
theorem xU {id:Int} {l:List Int} (hl:l.length≤1000000000):cX D8 247 [.slv 1 (l.map aS),.int .i64 id] ((.bool (decide (gY l id=0))),[],[]):=by
  refine aI bP SV (by simp [CC]) fun hw _=>?_
  simp only [iR,M5,aY] at hw
  repeat' with_reducible first|refine aQ (fun h=>?_) (fun h=>?_)|refine bB (fun h=>?_) (fun h=>?_)|refine aF (fun h=>?_) (fun h=>?_)|refine aH (fun h=>?_) (fun h=>?_)|refine bJ ?_ ?_ ?_ ?_|refine aR ?_ ?_|refine bC ?_ ?_|refine bM ?_ ?_|refine P0 (iV ?_) ?_ ?_ ?_|refine F2 (iV ?_) ?_ ?_ ?_|refine ACK.of (iV ?_) ?_ ?_|simp -implicitDefEqProofs only [CC,qA,cS,cW,aJ,aP,qU,D1,D4,D5,D3,D0,D6,reduceIte,reduceCtorEq, *]
  all_goals first
    | (simp; done)
    | exact bE
    | exact bE.symm
    | grind [aY,bL,bI]

end Go.Sak
