/- Part T12 of the proofs about the program: K3, K4. Conditions: none. -/
import Derived.Test.YtahdilehajdhgaaGreatT11
open Go.Sak.ACV renaming of→F3
open Go.Sak.AV renaming tr→O4,wf→M6
open Int renaming natCast_zero→F2,toNat_natCast→E1
open List renaming cons_ne_nil→d4,drop_length→V0,length_map→G8,reduceReplicate→D2
open Nat renaming reduceAdd→D5,reduceEqDiff→D1,reduceLeDiff→D4,reduceMul→D7,reduceSub→D6,zero_le→M7
open Go.Proofs.Tryz renaming prog→D9
open Go.Sak.Wk renaming nil→P6,of_eq→H3
namespace Go.Sak
open Go Go.RowKit Go.Proofs
set_option linter.unusedVariables false
set_option linter.unusedSimpArgs false
set_option maxRecDepth 10000
set_option maxHeartbeats 8000000
def Px:AFn:=⟨19,(.seq (.reg [o1 4 (.mv (ci 0))]) (.seq (.seq (.reg [o1 6 (.mv 0),o1 7 (.len 6),o1 8 (.mv (ci 0))]) (.block 0 (.loop (.seq (.reg [o1 9 (.bin .lss 8 7)]) (.seq (.cond 9 .skip (.exit 0)) (.seq (.block 1 (.seq (.reg [o1 10 (.mv 8),o1 5 (.mv 10)]) (.seq (.reg [o1 11 (.mv 1),o1 12 (.mv 0),o1 13 (.mv 5),o1 14 (.iaddr 1 12 13),o1 15 (.ld 1 false 14),o1 16 (.callv 11 [15])]) (.cond 16 (.seq (.reg [o1 17 (.mv 5),o1 4 (.mv 17)]) .ret) .skip)))) (.reg [o1 18 (.bin .add 8 (ci 1)),o1 8 (.mv 18)]))))))) (.seq (.reg [o1 4 (.mv (ci (-1)))]) .ret))),[(4,none)]⟩
theorem RY:xf D9 142=some Px:=by kernel_rfl
theorem JU {g:FuncId} {caps:List AV} {p:Int→Bool} {l:List Int} (hp:pures caps=true) (hq:∀ x,x∈l→cX D9 g (.int .i64 x :: caps) (.bool (p x),[],[])):cX D9 142 [.slv 1 (l.map aS),.fn (.func g) [] caps] (.int .i64 (wU p l),[],[]):=by
  refine aI bP RY (by simp [Px]) fun hw _=>?_
  simp only [iS,M6,aY,G8] at hw
  simp -implicitDefEqProofs only [Px,qA,cS,cW,aJ,aP,qU,D2,D5,D6,D4,D1,D7,reduceIte,reduceCtorEq,aS,F2,E1,dQ _ _ hp,hp]
  refine xB (fun i:Nat=>[some (.slv 1 (l.map aS)),some (.fn (.func g) [] caps),none,none,none,none,none,some (.int .i64 l.length),some (.int .i64 i),none,none,none,none,none,none,none,none,none,none]) (fun i=>i≤l.length∧∀ j,j<i→p (l.getD j default)=false) (fun i=>l.length - i) 0 ?_ ?_ ?_ ?_ ?_
  rotate_right
  · intro i hJ
    simp only [dL,dK,all_nil]
    intros
    repeat' with_reducible first|refine aQ (fun h=>?_) (fun h=>?_)|refine bB (fun h=>?_) (fun h=>?_)|refine aF (fun h=>?_) (fun h=>?_)|refine aH (fun h=>?_) (fun h=>?_)|refine bJ ?_ ?_ ?_ ?_|refine aR ?_ ?_|refine bC ?_ ?_|refine bM ?_ ?_|refine AC.p0 (hq _ ?_) ?_ ?_ ?_ ?_|refine eK (d:=default) ?_ ?_|refine xE (i+1) ?_ ?_ ?_ ?_ ?_|simp -implicitDefEqProofs only [Px,qA,cS,cW,aJ,aP,qU,D2,D5,D6,D4,D1,D7,reduceIte,reduceCtorEq,aS,F2,E1,dQ _ _ hp,hp, *]
    all_goals first
    | (simp; done)
    | exact mC (d:=default) (by grind) (by grind) (by assumption)
    | exact nO (d:=default) (fun j hj=>by grind)
    | grind [aY,bL,bI,iB]
  all_goals first
    | (simp; done)
    | (simp -implicitDefEqProofs only [Px,qA,cS,cW,aJ,aP,qU,D2,D5,D6,D4,D1,D7,reduceIte,reduceCtorEq,aS,F2,E1,dQ _ _ hp,hp]; done)
    | exact mC (d:=default) (by grind) (by grind) (by assumption)
    | exact nO (d:=default) (fun j hj=>by grind)
    | grind [aY,bL,bI,iB]

def Pu:AFn:=⟨19,(.seq (.reg [o1 4 (.mv (ci 0))]) (.seq (.seq (.reg [o1 6 (.mv 0),o1 7 (.len 6),o1 8 (.mv (ci 0))]) (.block 0 (.loop (.seq (.reg [o1 9 (.bin .lss 8 7)]) (.seq (.cond 9 .skip (.exit 0)) (.seq (.block 1 (.seq (.reg [o1 10 (.mv 8),o1 5 (.mv 10)]) (.seq (.reg [o1 11 (.mv 1),o1 12 (.mv 0),o1 13 (.mv 5),o1 14 (.iaddr 11 12 13),o1 15 (.ld 11 true 14),o1 16 (.callv 11 [15])]) (.cond 16 (.seq (.reg [o1 17 (.mv 5),o1 4 (.mv 17)]) .ret) .skip)))) (.reg [o1 18 (.bin .add 8 (ci 1)),o1 8 (.mv 18)]))))))) (.seq (.reg [o1 4 (.mv (ci (-1)))]) .ret))),[(4,none)]⟩
theorem RK:xf D9 102=some Pu:=by kernel_rfl
theorem JQ {g:FuncId} {caps:List AV} {p:Thread→Bool} {l:List Thread} (hp:pures caps=true) (hq:∀ x,x∈l→cX D9 g (.agg (bH x) :: caps) (.bool (p x),[],[])):cX D9 102 [.slv 11 (l.map bH),.fn (.func g) [] caps] (.int .i64 (wU p l),[],[]):=by
  refine aI bP RK (by simp [Pu]) fun hw _=>?_
  simp only [iS,M6,aY,G8] at hw
  simp -implicitDefEqProofs only [Pu,qA,cS,cW,aJ,aP,qU,D2,D5,D6,D4,D1,D7,reduceIte,reduceCtorEq,len_encT,mH,F2,E1,dQ _ _ hp,hp]
  refine xB (fun i:Nat=>[some (.slv 11 (l.map bH)),some (.fn (.func g) [] caps),none,none,none,none,none,some (.int .i64 l.length),some (.int .i64 i),none,none,none,none,none,none,none,none,none,none]) (fun i=>i≤l.length∧∀ j,j<i→p (l.getD j default)=false) (fun i=>l.length - i) 0 ?_ ?_ ?_ ?_ ?_
  rotate_right
  · intro i hJ
    simp only [dL,dK,all_nil]
    intros
    repeat' with_reducible first|refine aQ (fun h=>?_) (fun h=>?_)|refine bB (fun h=>?_) (fun h=>?_)|refine aF (fun h=>?_) (fun h=>?_)|refine aH (fun h=>?_) (fun h=>?_)|refine bJ ?_ ?_ ?_ ?_|refine aR ?_ ?_|refine bC ?_ ?_|refine bM ?_ ?_|refine AC.p0 (hq _ ?_) ?_ ?_ ?_ ?_|refine eK (d:=default) ?_ ?_|refine xE (i+1) ?_ ?_ ?_ ?_ ?_|simp -implicitDefEqProofs only [Pu,qA,cS,cW,aJ,aP,qU,D2,D5,D6,D4,D1,D7,reduceIte,reduceCtorEq,len_encT,mH,F2,E1,dQ _ _ hp,hp, *]
    all_goals first
    | (simp; done)
    | exact mC (d:=default) (by grind) (by grind) (by assumption)
    | exact nO (d:=default) (fun j hj=>by grind)
    | grind [aY,bL,bI,iB]
  all_goals first
    | (simp; done)
    | (simp -implicitDefEqProofs only [Pu,qA,cS,cW,aJ,aP,qU,D2,D5,D6,D4,D1,D7,reduceIte,reduceCtorEq,len_encT,mH,F2,E1,dQ _ _ hp,hp]; done)
    | exact mC (d:=default) (by grind) (by grind) (by assumption)
    | exact nO (d:=default) (fun j hj=>by grind)
    | grind [aY,bL,bI,iB]

def AT:AFn:=⟨9,(.seq (.reg [o1 4 (.mv (.const (.bool false)))]) (.seq (.reg [o1 5 (.mv 0),o1 6 (.mv 1),o1 7 (.call 142 [5,6]),o1 8 (.bin .geq 7 (ci 0)),o1 4 (.mv 8)]) .ret)),[(4,none)]⟩
theorem RJ:xf D9 101=some AT:=by kernel_rfl
theorem Ul {g:FuncId} {caps:List AV} {p:Int→Bool} {l:List Int} (hp:pures caps=true) (hq:∀ x,x∈l→cX D9 g (.int .i64 x :: caps) (.bool (p x),[],[])):cX D9 101 [.slv 1 (l.map aS),.fn (.func g) [] caps] (.bool (l.any p),[],[]):=by
  refine aI bP RJ (by simp [AT]) fun hw _=>?_
  simp only [iS,M6,aY,G8] at hw
  repeat' with_reducible first|refine aQ (fun h=>?_) (fun h=>?_)|refine bB (fun h=>?_) (fun h=>?_)|refine aF (fun h=>?_) (fun h=>?_)|refine aH (fun h=>?_) (fun h=>?_)|refine bJ ?_ ?_ ?_ ?_|refine aR ?_ ?_|refine bC ?_ ?_|refine bM ?_ ?_|refine AC.p0 (JU hp hq) ?_ ?_ ?_ ?_|simp -implicitDefEqProofs only [AT,qA,cS,cW,aJ,aP,qU,D2,D5,D6,D4,D1,D7,reduceIte,reduceCtorEq,dQ _ _ hp,hp, *]
  all_goals first
    | (simp; done)
    | exact bE.symm
    | exact bE

def UR:AFn:=⟨9,(.seq (.reg [o1 4 (.mv (.const (.bool false)))]) (.seq (.reg [o1 5 (.mv 0),o1 6 (.mv 1),o1 7 (.call 102 [5,6]),o1 8 (.bin .geq 7 (ci 0)),o1 4 (.mv 8)]) .ret)),[(4,none)]⟩
theorem YU:xf D9 56=some UR:=by kernel_rfl
theorem OH {g:FuncId} {caps:List AV} {p:Thread→Bool} {l:List Thread} (hp:pures caps=true) (hq:∀ x,x∈l→cX D9 g (.agg (bH x) :: caps) (.bool (p x),[],[])):cX D9 56 [.slv 11 (l.map bH),.fn (.func g) [] caps] (.bool (l.any p),[],[]):=by
  refine aI bP YU (by simp [UR]) fun hw _=>?_
  simp only [iS,M6,aY,G8] at hw
  repeat' with_reducible first|refine aQ (fun h=>?_) (fun h=>?_)|refine bB (fun h=>?_) (fun h=>?_)|refine aF (fun h=>?_) (fun h=>?_)|refine aH (fun h=>?_) (fun h=>?_)|refine bJ ?_ ?_ ?_ ?_|refine aR ?_ ?_|refine bC ?_ ?_|refine bM ?_ ?_|refine AC.p0 (JQ hp hq) ?_ ?_ ?_ ?_|simp -implicitDefEqProofs only [UR,qA,cS,cW,aJ,aP,qU,D2,D5,D6,D4,D1,D7,reduceIte,reduceCtorEq,dQ _ _ hp,hp, *]
  all_goals first
    | (simp; done)
    | exact bE.symm
    | exact bE

def Py:AFn:=⟨19,(.seq (.reg [o1 4 (.mv (ci 0))]) (.seq (.seq (.reg [o1 6 (.mv 0),o1 7 (.len 6),o1 8 (.mv (ci 0))]) (.block 0 (.loop (.seq (.reg [o1 9 (.bin .lss 8 7)]) (.seq (.cond 9 .skip (.exit 0)) (.seq (.block 1 (.seq (.reg [o1 10 (.mv 8),o1 5 (.mv 10)]) (.seq (.reg [o1 11 (.mv 1),o1 12 (.mv 0),o1 13 (.mv 5),o1 14 (.iaddr 1 12 13),o1 15 (.ld 1 false 14),o1 16 (.bin .eql 11 15)]) (.cond 16 (.seq (.reg [o1 17 (.mv 5),o1 4 (.mv 17)]) .ret) .skip)))) (.reg [o1 18 (.bin .add 8 (ci 1)),o1 8 (.mv 18)]))))))) (.seq (.reg [o1 4 (.mv (ci (-1)))]) .ret))),[(4,none)]⟩
theorem SD:xf D9 195=some Py:=by kernel_rfl
theorem xU {x:Int} {l:List Int}:cX D9 195 [.slv 1 (l.map aS),.int .i64 x] (.int .i64 (wU (fun y=>decide (x=y)) l),[],[]):=by
  refine aI bP SD (by simp [Py]) fun hw _=>?_
  simp only [iS,M6,aY,G8] at hw
  simp -implicitDefEqProofs only [Py,qA,cS,cW,aJ,aP,qU,D2,D5,D6,D4,D1,D7,reduceIte,reduceCtorEq,aS,E1,F2]
  refine xB (fun i:Nat=>[some (.slv 1 (l.map aS)),some (.int .i64 x),none,none,none,none,none,some (.int .i64 l.length),some (.int .i64 i),none,none,none,none,none,none,none,none,none,none]) (fun i=>i≤l.length∧∀ j,j<i→(fun y=>decide (x=y)) (l.getD j default)=false) (fun i=>l.length - i) 0 ?_ ?_ ?_ ?_ ?_
  rotate_right
  · intro i hJ
    simp only [dL,dK,all_nil]
    intros
    repeat' with_reducible first|refine aQ (fun h=>?_) (fun h=>?_)|refine bB (fun h=>?_) (fun h=>?_)|refine aF (fun h=>?_) (fun h=>?_)|refine aH (fun h=>?_) (fun h=>?_)|refine bJ ?_ ?_ ?_ ?_|refine aR ?_ ?_|refine bC ?_ ?_|refine bM ?_ ?_|refine eK (d:=default) ?_ ?_|refine xE (i+1) ?_ ?_ ?_ ?_ ?_|simp -implicitDefEqProofs only [Py,qA,cS,cW,aJ,aP,qU,D2,D5,D6,D4,D1,D7,reduceIte,reduceCtorEq,aS,E1,F2, *]
    all_goals first
    | (simp; done)
    | exact mC (d:=default) (by grind) (by grind) (by assumption)
    | exact nO (d:=default) (fun j hj=>by grind)
    | grind [aY,bL,bI,iB]
  all_goals first
    | (simp; done)
    | (simp -implicitDefEqProofs only [Py,qA,cS,cW,aJ,aP,qU,D2,D5,D6,D4,D1,D7,reduceIte,reduceCtorEq,aS,E1,F2]; done)
    | exact mC (d:=default) (by grind) (by grind) (by assumption)
    | exact nO (d:=default) (fun j hj=>by grind)
    | grind [aY,bL,bI,iB]

def BK:AFn:=⟨9,(.seq (.reg [o1 4 (.mv (.const (.bool false)))]) (.seq (.reg [o1 5 (.mv 0),o1 6 (.mv 1),o1 7 (.call 195 [5,6]),o1 8 (.bin .geq 7 (ci 0)),o1 4 (.mv 8)]) .ret)),[(4,none)]⟩
theorem SE:xf D9 196=some BK:=by kernel_rfl
theorem Fx {x:Int} {l:List Int}:cX D9 196 [.slv 1 (l.map aS),.int .i64 x] ((.bool (l.any (fun y=>decide (x=y)))),[],[]):=by
  refine aI bP SE (by simp [BK]) fun hw _=>?_
  simp only [iS,M6,aY] at hw
  repeat' with_reducible first|refine aQ (fun h=>?_) (fun h=>?_)|refine bB (fun h=>?_) (fun h=>?_)|refine aF (fun h=>?_) (fun h=>?_)|refine aH (fun h=>?_) (fun h=>?_)|refine bJ ?_ ?_ ?_ ?_|refine aR ?_ ?_|refine bC ?_ ?_|refine bM ?_ ?_|refine P0 (xU) ?_ ?_ ?_|refine F3 (xU) ?_ ?_ ?_|refine ACK.of (xU) ?_ ?_|simp -implicitDefEqProofs only [BK,qA,cS,cW,aJ,aP,qU,D2,D5,D6,D4,D1,D7,reduceIte,reduceCtorEq, *]
  all_goals first
    | (simp; done)
    | exact bE
    | exact bE.symm
    | grind [aY,bL,bI,bE]

def BD:AFn:=⟨9,(.seq (.reg [o1 2 (.mv (.const (.bool false)))]) (.seq (.reg [o1 3 (.mv 0),o1 4 (.bin .lss 3 (ci 0)),o1 5 (.mv 4),o4 6 (.mv 0) 5,o4 7 (.bin .geq 6 (ci 16)) 5,o1 8 (.pick 5 (.const (.bool true)) 7),o1 2 (.mv 8)]) .ret)),[(2,none)]⟩
theorem RW:xf D9 140=some BD:=by kernel_rfl
theorem JT {x:Int}  : cX D9 140 [.int .i64 x] ((.bool (Cf x)),[],[]):=by
  refine aI bP RW (by simp [BD]) fun hw _=>?_
  simp only [iS,M6,aY] at hw
  repeat' with_reducible first|refine aQ (fun h=>?_) (fun h=>?_)|refine bB (fun h=>?_) (fun h=>?_)|refine aF (fun h=>?_) (fun h=>?_)|refine aH (fun h=>?_) (fun h=>?_)|refine bJ ?_ ?_ ?_ ?_|refine aR ?_ ?_|refine bC ?_ ?_|refine bM ?_ ?_|simp -implicitDefEqProofs only [BD,qA,cS,cW,aJ,aP,qU,D2,D5,D6,D4,D1,D7,reduceIte,reduceCtorEq, *]
  all_goals first
    | (simp; done)
    | exact bE
    | exact bE.symm
    | grind [aY,bL,bI,Cf]

def zS:AFn:=⟨8,(.seq (.reg [o1 2 (.mv (.const .slnil))]) (.seq (.seq (.reg [o1 3 (.mv 0),o1 4 (.eqn false 3)]) (.cond 4 (.seq (.reg [o1 2 (.mv (.const .slnil))]) .ret) .skip)) (.seq (.reg [o1 5 (.bslice 3 1 0 []),o1 6 (.mv 0),o1 7 (.app 3 1 8 5 6),o1 2 (.mv 7)]) .ret))),[(2,none)]⟩
theorem Ti:xf D9 129=some zS:=by kernel_rfl
theorem dR {l:List Int} (hl:l.length≤1000000000):cX D9 129 [.slv 1 (l.map aS)] (.slv 1 (l.map aS),[],[]):=by
  cases l with
  | nil =>
    refine tS ?_ ?_
    all_goals refine aI bP Ti (by simp [zS]) fun hw _=>?_
    repeat' with_reducible first|refine aQ (fun h=>?_) (fun h=>?_)|refine bB (fun h=>?_) (fun h=>?_)|refine aF (fun h=>?_) (fun h=>?_)|refine aH (fun h=>?_) (fun h=>?_)|refine iX ?_ ?_ ?_ rfl ?_|refine aR ?_ ?_|refine bC ?_ ?_|refine bM ?_ ?_|refine eM (eW _ _ _) (m_get_same _ _ _) rfl ?_ ?_ ?_|refine eM (iQ _ _) (m_get_same _ _ _) rfl ?_ ?_ ?_|refine eM (iR _ _ _) (m_get_same _ _ _) rfl ?_ ?_ ?_|simp -implicitDefEqProofs only [zS,qA,cS,cW,aJ,aP,qU,D2,D5,D6,D4,D1,D7,reduceIte,reduceCtorEq,jV,jW,iI,sX,sY,bY,iQ,iR,eW, *]
    all_goals first
      | exact P6 _
      | (simp [jH,puress,pure_encI,bQ pure_encI]; done)
      | (simp at hl ⊢; omega)
      | (refine H3 ?_; simp [stT,O4,frzS,AM.get,take_mapl]; done)
  | cons x l =>
    refine aI bP Ti (by simp [zS]) fun hw _=>?_
    repeat' with_reducible first|refine aQ (fun h=>?_) (fun h=>?_)|refine bB (fun h=>?_) (fun h=>?_)|refine aF (fun h=>?_) (fun h=>?_)|refine aH (fun h=>?_) (fun h=>?_)|refine iX ?_ ?_ ?_ rfl ?_|refine aR ?_ ?_|refine bC ?_ ?_|refine bM ?_ ?_|refine eM (eW _ _ _) (m_get_same _ _ _) rfl ?_ ?_ ?_|refine eM (iQ _ _) (m_get_same _ _ _) rfl ?_ ?_ ?_|refine eM (iR _ _ _) (m_get_same _ _ _) rfl ?_ ?_ ?_|simp -implicitDefEqProofs only [zS,qA,cS,cW,aJ,aP,qU,D2,D5,D6,D4,D1,D7,reduceIte,reduceCtorEq,jV,jW,iI,sX,sY,bY,iQ,iR,eW, *]
    all_goals first
      | exact P6 _
      | (simp [jH,puress,pure_encI,bQ pure_encI]; done)
      | (simp at hl ⊢; omega)
      | (refine H3 ?_; simp [stT,O4,frzS,AM.get,take_mapl]; done)

def Hk:AFn:=⟨8,(.seq (.reg [o1 2 (.mv (.const .slnil))]) (.seq (.seq (.reg [o1 3 (.mv 0),o1 4 (.eqn false 3)]) (.cond 4 (.seq (.reg [o1 2 (.mv (.const .slnil))]) .ret) .skip)) (.seq (.reg [o1 5 (.bslice 42 11 0 []),o1 6 (.mv 0),o1 7 (.app 42 11 88 5 6),o1 2 (.mv 7)]) .ret))),[(2,none)]⟩
theorem HH:xf D9 130=some Hk:=by kernel_rfl
theorem pZ {l:List Thread} (hl:l.length≤1000000000):cX D9 130 [.slv 11 (l.map bH)] (.slv 11 (l.map bH),[],[]):=by
  cases l with
  | nil =>
    refine tS ?_ ?_
    all_goals refine aI bP HH (by simp [Hk]) fun hw _=>?_
    repeat' with_reducible first|refine aQ (fun h=>?_) (fun h=>?_)|refine bB (fun h=>?_) (fun h=>?_)|refine aF (fun h=>?_) (fun h=>?_)|refine aH (fun h=>?_) (fun h=>?_)|refine iX ?_ ?_ ?_ rfl ?_|refine aR ?_ ?_|refine bC ?_ ?_|refine bM ?_ ?_|refine eM (eW _ _ _) (m_get_same _ _ _) rfl ?_ ?_ ?_|refine eM (iQ _ _) (m_get_same _ _ _) rfl ?_ ?_ ?_|refine eM (iR _ _ _) (m_get_same _ _ _) rfl ?_ ?_ ?_|simp -implicitDefEqProofs only [Hk,qA,cS,cW,aJ,aP,qU,D2,D5,D6,D4,D1,D7,reduceIte,reduceCtorEq,jV,jW,iI,sX,sY,bY,iQ,iR,eW, *]
    all_goals first
      | exact P6 _
      | (simp [jH,puress,pure_encT,bQ pure_encT]; done)
      | (simp at hl ⊢; omega)
      | (refine H3 ?_; simp [stT,O4,frzS,AM.get,take_mapl]; done)
  | cons x l =>
    refine aI bP HH (by simp [Hk]) fun hw _=>?_
    repeat' with_reducible first|refine aQ (fun h=>?_) (fun h=>?_)|refine bB (fun h=>?_) (fun h=>?_)|refine aF (fun h=>?_) (fun h=>?_)|refine aH (fun h=>?_) (fun h=>?_)|refine iX ?_ ?_ ?_ rfl ?_|refine aR ?_ ?_|refine bC ?_ ?_|refine bM ?_ ?_|refine eM (eW _ _ _) (m_get_same _ _ _) rfl ?_ ?_ ?_|refine eM (iQ _ _) (m_get_same _ _ _) rfl ?_ ?_ ?_|refine eM (iR _ _ _) (m_get_same _ _ _) rfl ?_ ?_ ?_|simp -implicitDefEqProofs only [Hk,qA,cS,cW,aJ,aP,qU,D2,D5,D6,D4,D1,D7,reduceIte,reduceCtorEq,jV,jW,iI,sX,sY,bY,iQ,iR,eW, *]
    all_goals first
      | exact P6 _
      | (simp [jH,puress,pure_encT,bQ pure_encT]; done)
      | (simp at hl ⊢; omega)
      | (refine H3 ?_; simp [stT,O4,frzS,AM.get,take_mapl]; done)

def Pv:AFn:=⟨8,(.seq (.reg [o1 2 (.mv (.const .slnil))]) (.seq (.seq (.reg [o1 3 (.mv 0),o1 4 (.eqn false 3)]) (.cond 4 (.seq (.reg [o1 2 (.mv (.const .slnil))]) .ret) .skip)) (.seq (.reg [o1 5 (.bslice 107 2 0 []),o1 6 (.mv 0),o1 7 (.app 107 2 16 5 6),o1 2 (.mv 7)]) .ret))),[(2,none)]⟩
theorem MN:xf D9 128=some Pv:=by kernel_rfl
theorem eV {l:List Slot} (hl:l.length≤1000000000):cX D9 128 [.slv 2 (l.map cU)] (.slv 2 (l.map cU),[],[]):=by
  cases l with
  | nil =>
    refine tS ?_ ?_
    all_goals refine aI bP MN (by simp [Pv]) fun hw _=>?_
    repeat' with_reducible first|refine aQ (fun h=>?_) (fun h=>?_)|refine bB (fun h=>?_) (fun h=>?_)|refine aF (fun h=>?_) (fun h=>?_)|refine aH (fun h=>?_) (fun h=>?_)|refine iX ?_ ?_ ?_ rfl ?_|refine aR ?_ ?_|refine bC ?_ ?_|refine bM ?_ ?_|refine eM (eW _ _ _) (m_get_same _ _ _) rfl ?_ ?_ ?_|refine eM (iQ _ _) (m_get_same _ _ _) rfl ?_ ?_ ?_|refine eM (iR _ _ _) (m_get_same _ _ _) rfl ?_ ?_ ?_|simp -implicitDefEqProofs only [Pv,qA,cS,cW,aJ,aP,qU,D2,D5,D6,D4,D1,D7,reduceIte,reduceCtorEq,jV,jW,iI,sX,sY,bY,iQ,iR,eW, *]
    all_goals first
      | exact P6 _
      | (simp [jH,puress,pure_encS,bQ pure_encS]; done)
      | (simp at hl ⊢; omega)
      | (refine H3 ?_; simp [stT,O4,frzS,AM.get,take_mapl]; done)
  | cons x l =>
    refine aI bP MN (by simp [Pv]) fun hw _=>?_
    repeat' with_reducible first|refine aQ (fun h=>?_) (fun h=>?_)|refine bB (fun h=>?_) (fun h=>?_)|refine aF (fun h=>?_) (fun h=>?_)|refine aH (fun h=>?_) (fun h=>?_)|refine iX ?_ ?_ ?_ rfl ?_|refine aR ?_ ?_|refine bC ?_ ?_|refine bM ?_ ?_|refine eM (eW _ _ _) (m_get_same _ _ _) rfl ?_ ?_ ?_|refine eM (iQ _ _) (m_get_same _ _ _) rfl ?_ ?_ ?_|refine eM (iR _ _ _) (m_get_same _ _ _) rfl ?_ ?_ ?_|simp -implicitDefEqProofs only [Pv,qA,cS,cW,aJ,aP,qU,D2,D5,D6,D4,D1,D7,reduceIte,reduceCtorEq,jV,jW,iI,sX,sY,bY,iQ,iR,eW, *]
    all_goals first
      | exact P6 _
      | (simp [jH,puress,pure_encS,bQ pure_encS]; done)
      | (simp at hl ⊢; omega)
      | (refine H3 ?_; simp [stT,O4,frzS,AM.get,take_mapl]; done)

def zT:AFn:=⟨8,(.seq (.reg [o1 2 (.mv (.const .slnil))]) (.seq (.seq (.reg [o1 3 (.mv 0),o1 4 (.eqn false 3)]) (.cond 4 (.seq (.reg [o1 2 (.mv (.const .slnil))]) .ret) .skip)) (.seq (.reg [o1 5 (.bslice 109 5 0 []),o1 6 (.mv 0),o1 7 (.app 109 5 40 5 6),o1 2 (.mv 7)]) .ret))),[(2,none)]⟩
theorem Tj:xf D9 131=some zT:=by kernel_rfl
theorem gX {l:List Entry} (hl:l.length≤1000000000):cX D9 131 [.slv 5 (l.map cO)] (.slv 5 (l.map cO),[],[]):=by
  cases l with
  | nil =>
    refine tS ?_ ?_
    all_goals refine aI bP Tj (by simp [zT]) fun hw _=>?_
    repeat' with_reducible first|refine aQ (fun h=>?_) (fun h=>?_)|refine bB (fun h=>?_) (fun h=>?_)|refine aF (fun h=>?_) (fun h=>?_)|refine aH (fun h=>?_) (fun h=>?_)|refine iX ?_ ?_ ?_ rfl ?_|refine aR ?_ ?_|refine bC ?_ ?_|refine bM ?_ ?_|refine eM (eW _ _ _) (m_get_same _ _ _) rfl ?_ ?_ ?_|refine eM (iQ _ _) (m_get_same _ _ _) rfl ?_ ?_ ?_|refine eM (iR _ _ _) (m_get_same _ _ _) rfl ?_ ?_ ?_|simp -implicitDefEqProofs only [zT,qA,cS,cW,aJ,aP,qU,D2,D5,D6,D4,D1,D7,reduceIte,reduceCtorEq,jV,jW,iI,sX,sY,bY,iQ,iR,eW, *]
    all_goals first
      | exact P6 _
      | (simp [jH,puress,pure_encE,bQ pure_encE]; done)
      | (simp at hl ⊢; omega)
      | (refine H3 ?_; simp [stT,O4,frzS,AM.get,take_mapl]; done)
  | cons x l =>
    refine aI bP Tj (by simp [zT]) fun hw _=>?_
    repeat' with_reducible first|refine aQ (fun h=>?_) (fun h=>?_)|refine bB (fun h=>?_) (fun h=>?_)|refine aF (fun h=>?_) (fun h=>?_)|refine aH (fun h=>?_) (fun h=>?_)|refine iX ?_ ?_ ?_ rfl ?_|refine aR ?_ ?_|refine bC ?_ ?_|refine bM ?_ ?_|refine eM (eW _ _ _) (m_get_same _ _ _) rfl ?_ ?_ ?_|refine eM (iQ _ _) (m_get_same _ _ _) rfl ?_ ?_ ?_|refine eM (iR _ _ _) (m_get_same _ _ _) rfl ?_ ?_ ?_|simp -implicitDefEqProofs only [zT,qA,cS,cW,aJ,aP,qU,D2,D5,D6,D4,D1,D7,reduceIte,reduceCtorEq,jV,jW,iI,sX,sY,bY,iQ,iR,eW, *]
    all_goals first
      | exact P6 _
      | (simp [jH,puress,pure_encE,bQ pure_encE]; done)
      | (simp at hl ⊢; omega)
      | (refine H3 ?_; simp [stT,O4,frzS,AM.get,take_mapl]; done)

set_option maxHeartbeats 8000000
def Pw:AFn:=⟨21,(.seq (.reg [o1 2 (.mv (.const .slnil))]) (.seq (.seq (.reg [o1 5 (.mv 0),o1 6 (.len 5),o1 7 (.mv (ci 0))]) (.block 0 (.loop (.seq (.reg [o1 8 (.bin .lss 7 6)]) (.seq (.cond 8 .skip (.exit 0)) (.seq (.block 1 (.seq (.reg [o1 9 (.iaddr 1 5 7),o1 10 (.ld 1 false 9),o1 4 (.mv 10)]) (.seq (.reg [o1 11 (.mv 2),o1 12 (.mv 4),o1 13 (.call 196 [11,12]),o1 14 (.not 13)]) (.cond 14 (.reg [o1 15 (.mv 2),o1 16 (.mv 4),o1 17 (.bslice 3 1 1 [16]),o1 18 (.app 3 1 8 15 17),o1 2 (.mv 18)]) .skip)))) (.reg [o1 19 (.bin .add 7 (ci 1)),o1 7 (.mv 19)]))))))) (.seq (.reg [o1 20 (.mv 2),o1 2 (.mv 20)]) .ret))),[(2,none)]⟩
theorem RX:xf D9 141=some Pw:=by kernel_rfl
theorem Ku {l:List Int} (hl:l.length≤1000000000):cX D9 141 [.slv 1 (l.map aS)] (.slv 1 ((lU [] l).map aS),[],[]):=by
  refine aI bP RX (by simp [Pw]) fun hw _=>?_
  simp only [iS,M6,aY,G8] at hw
  simp -implicitDefEqProofs only [Pw,qA,cS,cW,aJ,aP,qU,D2,D5,D6,D4,D1,D7,reduceIte,reduceCtorEq,aS,E1,F2,bS,cJ,cY,eW,bY,M7,if_pos rfl,d4,take_mapl,G8]
  refine oO 4 (fun s:Nat×List Int=>[some (.slv 1 (l.map aS)),none,some (if s.2=[] then .slnil else .slm 2 s.2.length),none,none,some (.slv 1 (l.map aS)),some (.int .i64 l.length),some (.int .i64 s.1),none,none,none,none,none,none,none,none,none,none,none,none,none]) (fun s=>if s.2=[] then [] else [(2,.rows 3 1 (s.2.map aS))]) (fun s=>s.1≤l.length∧s.2.length≤s.1∧lU s.2 (l.drop s.1)=lU [] l) (fun s=>l.length - s.1) [] [] (0,[]) (by omega) ?_ ?_ ?_ ?_ ?_ ?_
  rotate_right
  · rintro ⟨i,out⟩ ⟨hJ1,hJ2,hJ3⟩
    simp only [dL,dK,all_nil]
    intros
    by_cases hne:out=[]
    · subst hne
      simp -implicitDefEqProofs only [if_true]
      simp only [] at hJ1 hJ2 hJ3
      repeat' with_reducible first|refine aQ (fun h=>?_) (fun h=>?_)|refine bB (fun h=>?_) (fun h=>?_)|refine aF (fun h=>?_) (fun h=>?_)|refine aH (fun h=>?_) (fun h=>?_)|refine iX ?_ ?_ ?_ rfl ?_|refine aR ?_ ?_|refine bC ?_ ?_|refine bM ?_ ?_|refine eK (d:=default) ?_ ?_|refine AC.view [2] ?_ ?_ ?_|refine F3 (Fx (l:=o :: out)) ?_ ?_ ?_|refine F3 (sO (Fx (l:=[]))) ?_ ?_ ?_|simp -implicitDefEqProofs only [Pw,qA,cS,cW,aJ,aP,qU,D2,D5,D6,D4,D1,D7,reduceIte,reduceCtorEq,aS,E1,F2,bS,cJ,cY,eW,bY,M7,if_pos rfl,d4,take_mapl,G8, *]
      all_goals first
        | (simp; done)
        | (refine gW [] [(180,2)] (i+1,[l.getD i default]) ?_ ?_ ?_ ?_ ?_ ?_ <;> first | (simp [stOk,fS,stM,nameT,lk,Blk.tr,dC,trss,trs,O4,aS,eB _ pure_encI]; done) | (simp [trs,O4,Mt,eB _ pure_encI,stT,nameT,lk]; grind [bL,bI]) | grind [tW])
        | (refine gW [] [] (i+1,[]) ?_ ?_ ?_ ?_ ?_ ?_ <;> first | (simp [stOk,fS,stM,nameT,lk,Blk.tr,dC,trss,trs,O4,aS,eB _ pure_encI]; done) | (simp [trs,O4,Mt,eB _ pure_encI,stT,nameT,lk]; grind [bL,bI]) | grind [tW])
        | (refine gW [] [(2,2)] (i+1,[]) ?_ ?_ ?_ ?_ ?_ ?_ <;> first | (simp [stOk,fS,stM,nameT,lk,Blk.tr,dC,trss,trs,O4,aS,eB _ pure_encI]; done) | (simp [trs,O4,Mt,eB _ pure_encI,stT,nameT,lk]; grind [bL,bI]) | grind [tW])
        | (simp [jH,bQ pure_encI]; done)
        | (have hi:i=l.length:=by grind
           subst hi
           simp only [V0,lU] at hJ3
           rw [← hJ3]
           first | exact P6 _ | (refine H3 ?_; simp [take_mapl]; done))
        | grind [aY,bL,bI,lU,V0]
        | skip
    · simp -implicitDefEqProofs only [if_neg hne]
      simp only [] at hJ1 hJ2 hJ3
      repeat' with_reducible first|refine aQ (fun h=>?_) (fun h=>?_)|refine bB (fun h=>?_) (fun h=>?_)|refine aF (fun h=>?_) (fun h=>?_)|refine aH (fun h=>?_) (fun h=>?_)|refine iX ?_ ?_ ?_ rfl ?_|refine aR ?_ ?_|refine bC ?_ ?_|refine bM ?_ ?_|refine eK (d:=default) ?_ ?_|refine AC.view [2] ?_ ?_ ?_|refine F3 (Fx (l:=out)) ?_ ?_ ?_|refine F3 (sO (Fx (l:=[]))) ?_ ?_ ?_|simp -implicitDefEqProofs only [Pw,qA,cS,cW,aJ,aP,qU,D2,D5,D6,D4,D1,D7,reduceIte,reduceCtorEq,aS,E1,F2,bS,cJ,cY,eW,bY,M7,if_pos rfl,d4,take_mapl,G8, *]
      all_goals first
        | (simp; done)
        | (refine gW [] [(180,2)] (i+1,out ++ [l.getD i default]) ?_ ?_ ?_ ?_ ?_ ?_ <;> first | (simp [stOk,fS,stM,nameT,lk,Blk.tr,dC,trss,trs,O4,aS,eB _ pure_encI,hne]; done) | (simp [trs,O4,Mt,eB _ pure_encI,stT,nameT,lk,hne]; grind [bL,bI]) | grind [tW])
        | (refine gW [] [] (i+1,[]) ?_ ?_ ?_ ?_ ?_ ?_ <;> first | (simp [stOk,fS,stM,nameT,lk,Blk.tr,dC,trss,trs,O4,aS,eB _ pure_encI,hne]; done) | (simp [trs,O4,Mt,eB _ pure_encI,stT,nameT,lk,hne]; grind [bL,bI]) | grind [tW])
        | (refine gW [] [(2,2)] (i+1,out) ?_ ?_ ?_ ?_ ?_ ?_ <;> first | (simp [stOk,fS,stM,nameT,lk,Blk.tr,dC,trss,trs,O4,aS,eB _ pure_encI,hne]; done) | (simp [trs,O4,Mt,eB _ pure_encI,stT,nameT,lk,hne]; grind [bL,bI]) | grind [tW])
        | (simp [jH,bQ pure_encI]; done)
        | (have hi:i=l.length:=by grind
           subst hi
           simp only [V0,lU] at hJ3
           rw [← hJ3]
           first | exact P6 _ | (refine H3 ?_; simp [take_mapl]; done))
        | grind [aY,bL,bI,lU,V0]
        | skip
  all_goals first
    | (simp; done)
    | (simp [stOk,fS,stM,trs,O4,Mt,eB _ pure_encI]; done)

def AS:AFn:=⟨16,(.seq (.reg [o1 2 (.mv (.const (.bool false)))]) (.seq (.reg [o1 3 (.mv (.func 140))]) (.seq (.reg [o1 4 (.mv 0),o1 5 (.mv 3),o1 6 (.call 101 [4,5]),o1 7 (.not 6),o1 8 (.mv 7),o3 9 (.mv 0) 8,o3 10 (.call 141 [9]) 8,o3 11 (.len 10) 8,o3 12 (.mv 0) 8,o3 13 (.len 12) 8,o3 14 (.bin .eql 11 13) 8,o1 15 (.pick 8 14 (.const (.bool false))),o1 2 (.mv 15)]) .ret))),[(2,none)]⟩
theorem RI:xf D9 100=some AS:=by kernel_rfl
theorem iL  {l:List Int} (hl:l.length≤1000000000):cX D9 100 [.slv 1 (l.map aS)] ((.bool (gY l)),[],[]):=by
  refine aI bP RI (by simp [AS]) fun hw _=>?_
  simp only [iS,M6,aY] at hw
  repeat' with_reducible first|refine aQ (fun h=>?_) (fun h=>?_)|refine bB (fun h=>?_) (fun h=>?_)|refine aF (fun h=>?_) (fun h=>?_)|refine aH (fun h=>?_) (fun h=>?_)|refine bJ ?_ ?_ ?_ ?_|refine aR ?_ ?_|refine bC ?_ ?_|refine bM ?_ ?_|refine P0 (Ul (p:=Cf) (caps:=[]) rfl (fun x _=>JT)) ?_ ?_ ?_|refine P0 (Ku ?_) ?_ ?_ ?_|refine F3 (Ku ?_) ?_ ?_ ?_|refine ACK.of (Ku ?_) ?_ ?_|simp -implicitDefEqProofs only [AS,qA,cS,cW,aJ,aP,qU,D2,D5,D6,D4,D1,D7,reduceIte,reduceCtorEq, *]
  all_goals first
    | (simp; done)
    | exact bE
    | exact bE.symm
    | grind [aY,bL,bI,gY]

def BB:AFn:=⟨11,(.seq (.reg [o1 4 (.mv (ci 0))]) (.seq (.seq (.reg [o1 5 (.mv 0),o1 6 (.call 100 [5]),o1 7 (.not 6)]) (.cond 7 (.seq (.reg [o1 4 (.mv (ci (-1)))]) .ret) .skip)) (.seq (.reg [o1 8 (.mv 0),o1 9 (.mv 1),o1 10 (.call 195 [8,9]),o1 4 (.mv 10)]) .ret))),[(4,none)]⟩
theorem RU:xf D9 137=some BB:=by kernel_rfl
theorem iW {id:Int} {l:List Int} (hl:l.length≤1000000000):cX D9 137 [.slv 1 (l.map aS),.int .i64 id] ((.int .i64 (gZ l id)),[],[]):=by
  refine aI bP RU (by simp [BB]) fun hw _=>?_
  simp only [iS,M6,aY] at hw
  repeat' with_reducible first|refine aQ (fun h=>?_) (fun h=>?_)|refine bB (fun h=>?_) (fun h=>?_)|refine aF (fun h=>?_) (fun h=>?_)|refine aH (fun h=>?_) (fun h=>?_)|refine bJ ?_ ?_ ?_ ?_|refine aR ?_ ?_|refine bC ?_ ?_|refine bM ?_ ?_|refine P0 (iL ?_) ?_ ?_ ?_|refine F3 (iL ?_) ?_ ?_ ?_|refine ACK.of (iL ?_) ?_ ?_|refine P0 (xU) ?_ ?_ ?_|refine F3 (xU) ?_ ?_ ?_|refine ACK.of (xU) ?_ ?_|simp -implicitDefEqProofs only [BB,qA,cS,cW,aJ,aP,qU,D2,D5,D6,D4,D1,D7,reduceIte,reduceCtorEq, *]
  all_goals first
    | (simp; done)
    | exact bE
    | exact bE.symm
    | grind [aY,bL,bI,gZ]

def CD:AFn:=⟨9,(.seq (.reg [o1 4 (.mv (.const (.bool false)))]) (.seq (.reg [o1 5 (.mv 0),o1 6 (.mv 1),o1 7 (.call 137 [5,6]),o1 8 (.bin .eql 7 (ci 0)),o1 4 (.mv 8)]) .ret)),[(4,none)]⟩
theorem SW:xf D9 247=some CD:=by kernel_rfl
theorem xV {id:Int} {l:List Int} (hl:l.length≤1000000000):cX D9 247 [.slv 1 (l.map aS),.int .i64 id] ((.bool (decide (gZ l id=0))),[],[]):=by
  refine aI bP SW (by simp [CD]) fun hw _=>?_
  simp only [iS,M6,aY] at hw
  repeat' with_reducible first|refine aQ (fun h=>?_) (fun h=>?_)|refine bB (fun h=>?_) (fun h=>?_)|refine aF (fun h=>?_) (fun h=>?_)|refine aH (fun h=>?_) (fun h=>?_)|refine bJ ?_ ?_ ?_ ?_|refine aR ?_ ?_|refine bC ?_ ?_|refine bM ?_ ?_|refine P0 (iW ?_) ?_ ?_ ?_|refine F3 (iW ?_) ?_ ?_ ?_|refine ACK.of (iW ?_) ?_ ?_|simp -implicitDefEqProofs only [CD,qA,cS,cW,aJ,aP,qU,D2,D5,D6,D4,D1,D7,reduceIte,reduceCtorEq, *]
  all_goals first
    | (simp; done)
    | exact bE
    | exact bE.symm
    | grind [aY,bL,bI]

end Go.Sak
