/- Part U12 of the proofs about the program: K3, K4. Conditions: none. -/
import Derived.Test.YtahdilehajdhgaaGreatU11
open Go.Sak.AV renaming tr→CP,wf→BW
open Int renaming natCast_zero→AD,toNat_natCast→Zy
open List renaming cons_ne_nil→ET,drop_length→DO,length_map→BB,reduceReplicate→Zj
open Nat renaming reduceAdd→Zs,reduceEqDiff→Zk,reduceLeDiff→Zo,reduceMul→Zu,reduceSub→Zt,zero_le→BS
open Go.Proofs.Tryz renaming prog→Zi
namespace Go.Sak
open Go Go.RowKit Go.Proofs
set_option linter.unusedVariables false
set_option linter.unusedSimpArgs false
set_option maxRecDepth 10000
set_option maxHeartbeats 8000000
def tJ:AFn:=⟨19,(.seq (.reg [o1 4 (.mv (ci 0))]) (.seq (.seq (.reg [o1 6 (.mv 0),o1 7 (.len 6),o1 8 (.mv (ci 0))]) (.block 0 (.loop (.seq (.reg [o1 9 (.bin .lss 8 7)]) (.seq (.cond 9 .skip (.exit 0)) (.seq (.block 1 (.seq (.reg [o1 10 (.mv 8),o1 5 (.mv 10)]) (.seq (.reg [o1 11 (.mv 1),o1 12 (.mv 0),o1 13 (.mv 5),o1 14 (.iaddr 1 12 13),o1 15 (.ld 1 false 14),o1 16 (.callv 11 [15])]) (.cond 16 (.seq (.reg [o1 17 (.mv 5),o1 4 (.mv 17)]) .ret) .skip)))) (.reg [o1 18 (.bin .add 8 (ci 1)),o1 8 (.mv 18)]))))))) (.seq (.reg [o1 4 (.mv (ci (-1)))]) .ret))),[(4,none)]⟩
theorem Jn:xf Zi 142=some tJ:=by kernel_rfl
theorem Br {g:FuncId} {caps:List AV} {p:Int→Bool} {l:List Int} (hp:pures caps=true) (hq:∀ x,x∈l→bO Zi g (.int .i64 x :: caps) (.bool (p x),[],[])):bO Zi 142 [.slv 1 (l.map aW),.fn (.func g) [] caps] (.int .i64 (oG p l),[],[]):=by
  refine aG cD Jn (by simp [tJ]) fun hw _=>?_
  simp only [eP,BW,aD,BB] at hw
  simp -implicitDefEqProofs only [tJ,qA,aZ,bJ,aF,aL,qU,Zj,Zs,Zt,Zo,Zk,Zu,reduceIte,reduceCtorEq,aW,AD,Zy,aY _ _ hp,hp]
  refine sS (fun i:Nat=>[some (.slv 1 (l.map aW)),some (.fn (.func g) [] caps),none,none,none,none,none,some (.int .i64 l.length),some (.int .i64 i),none,none,none,none,none,none,none,none,none,none]) (fun i=>i≤l.length∧∀ j,j<i→p (l.getD j default)=false) (fun i=>l.length - i) 0 ?_ ?_ ?_ ?_ ?_
  rotate_right
  · intro i hJ
    simp only [dF,dE,all_nil]
    intros
    repeat' with_reducible first|refine aO (fun h=>?_) (fun h=>?_)|refine aT (fun h=>?_) (fun h=>?_)|refine aC (fun h=>?_) (fun h=>?_)|refine aH (fun h=>?_) (fun h=>?_)|refine aN ?_ ?_ ?_ ?_|refine aP ?_ ?_|refine aU ?_ ?_|refine bE ?_ ?_|refine AC.p0 (hq _ ?_) ?_ ?_ ?_ ?_|refine dR (d:=default) ?_ ?_|refine sZ (i+1) ?_ ?_ ?_ ?_ ?_|simp -implicitDefEqProofs only [tJ,qA,aZ,bJ,aF,aL,qU,Zj,Zs,Zt,Zo,Zk,Zu,reduceIte,reduceCtorEq,aW,AD,Zy,aY _ _ hp,hp, *]
    all_goals first
    | (simp; done)
    | exact dZ (d:=default) (by grind) (by grind) (by assumption)
    | exact eS (d:=default) (fun j hj=>by grind)
    | grind [aD,aR,aJ,cT]
  all_goals first
    | (simp; done)
    | (simp -implicitDefEqProofs only [tJ,qA,aZ,bJ,aF,aL,qU,Zj,Zs,Zt,Zo,Zk,Zu,reduceIte,reduceCtorEq,aW,AD,Zy,aY _ _ hp,hp]; done)
    | exact dZ (d:=default) (by grind) (by grind) (by assumption)
    | exact eS (d:=default) (fun j hj=>by grind)
    | grind [aD,aR,aJ,cT]

def tH:AFn:=⟨19,(.seq (.reg [o1 4 (.mv (ci 0))]) (.seq (.seq (.reg [o1 6 (.mv 0),o1 7 (.len 6),o1 8 (.mv (ci 0))]) (.block 0 (.loop (.seq (.reg [o1 9 (.bin .lss 8 7)]) (.seq (.cond 9 .skip (.exit 0)) (.seq (.block 1 (.seq (.reg [o1 10 (.mv 8),o1 5 (.mv 10)]) (.seq (.reg [o1 11 (.mv 1),o1 12 (.mv 0),o1 13 (.mv 5),o1 14 (.iaddr 11 12 13),o1 15 (.ld 11 true 14),o1 16 (.callv 11 [15])]) (.cond 16 (.seq (.reg [o1 17 (.mv 5),o1 4 (.mv 17)]) .ret) .skip)))) (.reg [o1 18 (.bin .add 8 (ci 1)),o1 8 (.mv 18)]))))))) (.seq (.reg [o1 4 (.mv (ci (-1)))]) .ret))),[(4,none)]⟩
theorem Je:xf Zi 102=some tH:=by kernel_rfl
theorem Bo {g:FuncId} {caps:List AV} {p:Thread→Bool} {l:List Thread} (hp:pures caps=true) (hq:∀ x,x∈l→bO Zi g (.agg (bW x) :: caps) (.bool (p x),[],[])):bO Zi 102 [.slv 11 (l.map bW),.fn (.func g) [] caps] (.int .i64 (oG p l),[],[]):=by
  refine aG cD Je (by simp [tH]) fun hw _=>?_
  simp only [eP,BW,aD,BB] at hw
  simp -implicitDefEqProofs only [tH,qA,aZ,bJ,aF,aL,qU,Zj,Zs,Zt,Zo,Zk,Zu,reduceIte,reduceCtorEq,len_encT,kV,AD,Zy,aY _ _ hp,hp]
  refine sS (fun i:Nat=>[some (.slv 11 (l.map bW)),some (.fn (.func g) [] caps),none,none,none,none,none,some (.int .i64 l.length),some (.int .i64 i),none,none,none,none,none,none,none,none,none,none]) (fun i=>i≤l.length∧∀ j,j<i→p (l.getD j default)=false) (fun i=>l.length - i) 0 ?_ ?_ ?_ ?_ ?_
  rotate_right
  · intro i hJ
    simp only [dF,dE,all_nil]
    intros
    repeat' with_reducible first|refine aO (fun h=>?_) (fun h=>?_)|refine aT (fun h=>?_) (fun h=>?_)|refine aC (fun h=>?_) (fun h=>?_)|refine aH (fun h=>?_) (fun h=>?_)|refine aN ?_ ?_ ?_ ?_|refine aP ?_ ?_|refine aU ?_ ?_|refine bE ?_ ?_|refine AC.p0 (hq _ ?_) ?_ ?_ ?_ ?_|refine dR (d:=default) ?_ ?_|refine sZ (i+1) ?_ ?_ ?_ ?_ ?_|simp -implicitDefEqProofs only [tH,qA,aZ,bJ,aF,aL,qU,Zj,Zs,Zt,Zo,Zk,Zu,reduceIte,reduceCtorEq,len_encT,kV,AD,Zy,aY _ _ hp,hp, *]
    all_goals first
    | (simp; done)
    | exact dZ (d:=default) (by grind) (by grind) (by assumption)
    | exact eS (d:=default) (fun j hj=>by grind)
    | grind [aD,aR,aJ,cT]
  all_goals first
    | (simp; done)
    | (simp -implicitDefEqProofs only [tH,qA,aZ,bJ,aF,aL,qU,Zj,Zs,Zt,Zo,Zk,Zu,reduceIte,reduceCtorEq,len_encT,kV,AD,Zy,aY _ _ hp,hp]; done)
    | exact dZ (d:=default) (by grind) (by grind) (by assumption)
    | exact eS (d:=default) (fun j hj=>by grind)
    | grind [aD,aR,aJ,cT]

def xZ:AFn:=⟨9,(.seq (.reg [o1 4 (.mv (.const (.bool false)))]) (.seq (.reg [o1 5 (.mv 0),o1 6 (.mv 1),o1 7 (.call 142 [5,6]),o1 8 (.bin .geq 7 (ci 0)),o1 4 (.mv 8)]) .ret)),[(4,none)]⟩
theorem Jd:xf Zi 101=some xZ:=by kernel_rfl
theorem vE {g:FuncId} {caps:List AV} {p:Int→Bool} {l:List Int} (hp:pures caps=true) (hq:∀ x,x∈l→bO Zi g (.int .i64 x :: caps) (.bool (p x),[],[])):bO Zi 101 [.slv 1 (l.map aW),.fn (.func g) [] caps] (.bool (l.any p),[],[]):=by
  refine aG cD Jd (by simp [xZ]) fun hw _=>?_
  simp only [eP,BW,aD,BB] at hw
  repeat' with_reducible first|refine aO (fun h=>?_) (fun h=>?_)|refine aT (fun h=>?_) (fun h=>?_)|refine aC (fun h=>?_) (fun h=>?_)|refine aH (fun h=>?_) (fun h=>?_)|refine aN ?_ ?_ ?_ ?_|refine aP ?_ ?_|refine aU ?_ ?_|refine bE ?_ ?_|refine AC.p0 (Br hp hq) ?_ ?_ ?_ ?_|simp -implicitDefEqProofs only [xZ,qA,aZ,bJ,aF,aL,qU,Zj,Zs,Zt,Zo,Zk,Zu,reduceIte,reduceCtorEq,aY _ _ hp,hp, *]
  all_goals first
    | (simp; done)
    | exact aE.symm
    | exact aE

def Kh:AFn:=⟨9,(.seq (.reg [o1 4 (.mv (.const (.bool false)))]) (.seq (.reg [o1 5 (.mv 0),o1 6 (.mv 1),o1 7 (.call 102 [5,6]),o1 8 (.bin .geq 7 (ci 0)),o1 4 (.mv 8)]) .ret)),[(4,none)]⟩
theorem Vj:xf Zi 56=some Kh:=by kernel_rfl
theorem Ht {g:FuncId} {caps:List AV} {p:Thread→Bool} {l:List Thread} (hp:pures caps=true) (hq:∀ x,x∈l→bO Zi g (.agg (bW x) :: caps) (.bool (p x),[],[])):bO Zi 56 [.slv 11 (l.map bW),.fn (.func g) [] caps] (.bool (l.any p),[],[]):=by
  refine aG cD Vj (by simp [Kh]) fun hw _=>?_
  simp only [eP,BW,aD,BB] at hw
  repeat' with_reducible first|refine aO (fun h=>?_) (fun h=>?_)|refine aT (fun h=>?_) (fun h=>?_)|refine aC (fun h=>?_) (fun h=>?_)|refine aH (fun h=>?_) (fun h=>?_)|refine aN ?_ ?_ ?_ ?_|refine aP ?_ ?_|refine aU ?_ ?_|refine bE ?_ ?_|refine AC.p0 (Bo hp hq) ?_ ?_ ?_ ?_|simp -implicitDefEqProofs only [Kh,qA,aZ,bJ,aF,aL,qU,Zj,Zs,Zt,Zo,Zk,Zu,reduceIte,reduceCtorEq,aY _ _ hp,hp, *]
  all_goals first
    | (simp; done)
    | exact aE.symm
    | exact aE

def tK:AFn:=⟨19,(.seq (.reg [o1 4 (.mv (ci 0))]) (.seq (.seq (.reg [o1 6 (.mv 0),o1 7 (.len 6),o1 8 (.mv (ci 0))]) (.block 0 (.loop (.seq (.reg [o1 9 (.bin .lss 8 7)]) (.seq (.cond 9 .skip (.exit 0)) (.seq (.block 1 (.seq (.reg [o1 10 (.mv 8),o1 5 (.mv 10)]) (.seq (.reg [o1 11 (.mv 1),o1 12 (.mv 0),o1 13 (.mv 5),o1 14 (.iaddr 1 12 13),o1 15 (.ld 1 false 14),o1 16 (.bin .eql 11 15)]) (.cond 16 (.seq (.reg [o1 17 (.mv 5),o1 4 (.mv 17)]) .ret) .skip)))) (.reg [o1 18 (.bin .add 8 (ci 1)),o1 8 (.mv 18)]))))))) (.seq (.reg [o1 4 (.mv (ci (-1)))]) .ret))),[(4,none)]⟩
theorem Jv:xf Zi 195=some tK:=by kernel_rfl
theorem rK {x:Int} {l:List Int}:bO Zi 195 [.slv 1 (l.map aW),.int .i64 x] (.int .i64 (oG (fun y=>decide (x=y)) l),[],[]):=by
  refine aG cD Jv (by simp [tK]) fun hw _=>?_
  simp only [eP,BW,aD,BB] at hw
  simp -implicitDefEqProofs only [tK,qA,aZ,bJ,aF,aL,qU,Zj,Zs,Zt,Zo,Zk,Zu,reduceIte,reduceCtorEq,aW,Zy,AD]
  refine sS (fun i:Nat=>[some (.slv 1 (l.map aW)),some (.int .i64 x),none,none,none,none,none,some (.int .i64 l.length),some (.int .i64 i),none,none,none,none,none,none,none,none,none,none]) (fun i=>i≤l.length∧∀ j,j<i→(fun y=>decide (x=y)) (l.getD j default)=false) (fun i=>l.length - i) 0 ?_ ?_ ?_ ?_ ?_
  rotate_right
  · intro i hJ
    simp only [dF,dE,all_nil]
    intros
    repeat' with_reducible first|refine aO (fun h=>?_) (fun h=>?_)|refine aT (fun h=>?_) (fun h=>?_)|refine aC (fun h=>?_) (fun h=>?_)|refine aH (fun h=>?_) (fun h=>?_)|refine aN ?_ ?_ ?_ ?_|refine aP ?_ ?_|refine aU ?_ ?_|refine bE ?_ ?_|refine dR (d:=default) ?_ ?_|refine sZ (i+1) ?_ ?_ ?_ ?_ ?_|simp -implicitDefEqProofs only [tK,qA,aZ,bJ,aF,aL,qU,Zj,Zs,Zt,Zo,Zk,Zu,reduceIte,reduceCtorEq,aW,Zy,AD, *]
    all_goals first
    | (simp; done)
    | exact dZ (d:=default) (by grind) (by grind) (by assumption)
    | exact eS (d:=default) (fun j hj=>by grind)
    | grind [aD,aR,aJ,cT]
  all_goals first
    | (simp; done)
    | (simp -implicitDefEqProofs only [tK,qA,aZ,bJ,aF,aL,qU,Zj,Zs,Zt,Zo,Zk,Zu,reduceIte,reduceCtorEq,aW,Zy,AD]; done)
    | exact dZ (d:=default) (by grind) (by grind) (by assumption)
    | exact eS (d:=default) (fun j hj=>by grind)
    | grind [aD,aR,aJ,cT]

def yO:AFn:=⟨9,(.seq (.reg [o1 4 (.mv (.const (.bool false)))]) (.seq (.reg [o1 5 (.mv 0),o1 6 (.mv 1),o1 7 (.call 195 [5,6]),o1 8 (.bin .geq 7 (ci 0)),o1 4 (.mv 8)]) .ret)),[(4,none)]⟩
theorem Jw:xf Zi 196=some yO:=by kernel_rfl
theorem oB {x:Int} {l:List Int}:bO Zi 196 [.slv 1 (l.map aW),.int .i64 x] ((.bool (l.any (fun y=>decide (x=y)))),[],[]):=by
  refine aG cD Jw (by simp [yO]) fun hw _=>?_
  simp only [eP,BW,aD] at hw
  repeat' with_reducible first|refine aO (fun h=>?_) (fun h=>?_)|refine aT (fun h=>?_) (fun h=>?_)|refine aC (fun h=>?_) (fun h=>?_)|refine aH (fun h=>?_) (fun h=>?_)|refine aN ?_ ?_ ?_ ?_|refine aP ?_ ?_|refine aU ?_ ?_|refine bE ?_ ?_|refine P0 (rK) ?_ ?_ ?_|refine ACV.of (rK) ?_ ?_ ?_|refine ACK.of (rK) ?_ ?_|simp -implicitDefEqProofs only [yO,qA,aZ,bJ,aF,aL,qU,Zj,Zs,Zt,Zo,Zk,Zu,reduceIte,reduceCtorEq, *]
  all_goals first
    | (simp; done)
    | exact aE
    | exact aE.symm
    | grind [aD,aR,aJ,aE]

def yG:AFn:=⟨9,(.seq (.reg [o1 2 (.mv (.const (.bool false)))]) (.seq (.reg [o1 3 (.mv 0),o1 4 (.bin .lss 3 (ci 0)),o1 5 (.mv 4),o4 6 (.mv 0) 5,o4 7 (.bin .geq 6 (ci 16)) 5,o1 8 (.pick 5 (.const (.bool true)) 7),o1 2 (.mv 8)]) .ret)),[(2,none)]⟩
theorem Jl:xf Zi 140=some yG:=by kernel_rfl
theorem Bq {x:Int}  : bO Zi 140 [.int .i64 x] ((.bool (oJ x)),[],[]):=by
  refine aG cD Jl (by simp [yG]) fun hw _=>?_
  simp only [eP,BW,aD] at hw
  repeat' with_reducible first|refine aO (fun h=>?_) (fun h=>?_)|refine aT (fun h=>?_) (fun h=>?_)|refine aC (fun h=>?_) (fun h=>?_)|refine aH (fun h=>?_) (fun h=>?_)|refine aN ?_ ?_ ?_ ?_|refine aP ?_ ?_|refine aU ?_ ?_|refine bE ?_ ?_|simp -implicitDefEqProofs only [yG,qA,aZ,bJ,aF,aL,qU,Zj,Zs,Zt,Zo,Zk,Zu,reduceIte,reduceCtorEq, *]
  all_goals first
    | (simp; done)
    | exact aE
    | exact aE.symm
    | grind [aD,aR,aJ,oJ]

def Dr:AFn:=⟨8,(.seq (.reg [o1 2 (.mv (.const .slnil))]) (.seq (.seq (.reg [o1 3 (.mv 0),o1 4 (.eqn false 3)]) (.cond 4 (.seq (.reg [o1 2 (.mv (.const .slnil))]) .ret) .skip)) (.seq (.reg [o1 5 (.bslice 3 1 0 []),o1 6 (.mv 0),o1 7 (.app 3 1 8 5 6),o1 2 (.mv 7)]) .ret))),[(2,none)]⟩
theorem Pa:xf Zi 129=some Dr:=by kernel_rfl
def Ds:AFn:=⟨8,(.seq (.reg [o1 2 (.mv (.const .slnil))]) (.seq (.seq (.reg [o1 3 (.mv 0),o1 4 (.eqn false 3)]) (.cond 4 (.seq (.reg [o1 2 (.mv (.const .slnil))]) .ret) .skip)) (.seq (.reg [o1 5 (.bslice 42 11 0 []),o1 6 (.mv 0),o1 7 (.app 42 11 88 5 6),o1 2 (.mv 7)]) .ret))),[(2,none)]⟩
theorem Pb:xf Zi 130=some Ds:=by kernel_rfl
def Dq:AFn:=⟨8,(.seq (.reg [o1 2 (.mv (.const .slnil))]) (.seq (.seq (.reg [o1 3 (.mv 0),o1 4 (.eqn false 3)]) (.cond 4 (.seq (.reg [o1 2 (.mv (.const .slnil))]) .ret) .skip)) (.seq (.reg [o1 5 (.bslice 107 2 0 []),o1 6 (.mv 0),o1 7 (.app 107 2 16 5 6),o1 2 (.mv 7)]) .ret))),[(2,none)]⟩
theorem Oz:xf Zi 128=some Dq:=by kernel_rfl
def Dt:AFn:=⟨8,(.seq (.reg [o1 2 (.mv (.const .slnil))]) (.seq (.seq (.reg [o1 3 (.mv 0),o1 4 (.eqn false 3)]) (.cond 4 (.seq (.reg [o1 2 (.mv (.const .slnil))]) .ret) .skip)) (.seq (.reg [o1 5 (.bslice 109 5 0 []),o1 6 (.mv 0),o1 7 (.app 109 5 40 5 6),o1 2 (.mv 7)]) .ret))),[(2,none)]⟩
theorem Pc:xf Zi 131=some Dt:=by kernel_rfl
set_option maxHeartbeats 8000000
def tI:AFn:=⟨21,(.seq (.reg [o1 2 (.mv (.const .slnil))]) (.seq (.seq (.reg [o1 5 (.mv 0),o1 6 (.len 5),o1 7 (.mv (ci 0))]) (.block 0 (.loop (.seq (.reg [o1 8 (.bin .lss 7 6)]) (.seq (.cond 8 .skip (.exit 0)) (.seq (.block 1 (.seq (.reg [o1 9 (.iaddr 1 5 7),o1 10 (.ld 1 false 9),o1 4 (.mv 10)]) (.seq (.reg [o1 11 (.mv 2),o1 12 (.mv 4),o1 13 (.call 196 [11,12]),o1 14 (.not 13)]) (.cond 14 (.reg [o1 15 (.mv 2),o1 16 (.mv 4),o1 17 (.bslice 3 1 1 [16]),o1 18 (.app 3 1 8 15 17),o1 2 (.mv 18)]) .skip)))) (.reg [o1 19 (.bin .add 7 (ci 1)),o1 7 (.mv 19)]))))))) (.seq (.reg [o1 20 (.mv 2),o1 2 (.mv 20)]) .ret))),[(2,none)]⟩
theorem Jm:xf Zi 141=some tI:=by kernel_rfl
theorem rD {l:List Int} (hl:l.length≤1000000000):bO Zi 141 [.slv 1 (l.map aW)] (.slv 1 ((lU [] l).map aW),[],[]):=by
  refine aG cD Jm (by simp [tI]) fun hw _=>?_
  simp only [eP,BW,aD,BB] at hw
  simp -implicitDefEqProofs only [tI,qA,aZ,bJ,aF,aL,qU,Zj,Zs,Zt,Zo,Zk,Zu,reduceIte,reduceCtorEq,aW,Zy,AD,bI,cG,cV,kR,aX,BS,if_pos rfl,ET,take_mapl,BB]
  refine pN 4 (fun s:Nat×List Int=>[some (.slv 1 (l.map aW)),none,some (if s.2=[] then .slnil else .slm 2 s.2.length),none,none,some (.slv 1 (l.map aW)),some (.int .i64 l.length),some (.int .i64 s.1),none,none,none,none,none,none,none,none,none,none,none,none,none]) (fun s=>if s.2=[] then [] else [(2,.rows 3 1 (s.2.map aW))]) (fun s=>s.1≤l.length∧s.2.length≤s.1∧lU s.2 (l.drop s.1)=lU [] l) (fun s=>l.length - s.1) [] [] (0,[]) (by omega) ?_ ?_ ?_ ?_ ?_ ?_
  rotate_right
  · rintro ⟨i,out⟩ ⟨hJ1,hJ2,hJ3⟩
    simp only [dF,dE,all_nil]
    intros
    by_cases hne:out=[]
    · subst hne
      simp -implicitDefEqProofs only [if_true]
      simp only [] at hJ1 hJ2 hJ3
      repeat' with_reducible first|refine aO (fun h=>?_) (fun h=>?_)|refine aT (fun h=>?_) (fun h=>?_)|refine aC (fun h=>?_) (fun h=>?_)|refine aH (fun h=>?_) (fun h=>?_)|refine sH ?_ ?_ ?_ rfl ?_|refine aP ?_ ?_|refine aU ?_ ?_|refine bE ?_ ?_|refine dR (d:=default) ?_ ?_|refine AC.view [2] ?_ ?_ ?_|refine ACV.of (oB (l:=o :: out)) ?_ ?_ ?_|refine ACV.of (vT (oB (l:=[]))) ?_ ?_ ?_|simp -implicitDefEqProofs only [tI,qA,aZ,bJ,aF,aL,qU,Zj,Zs,Zt,Zo,Zk,Zu,reduceIte,reduceCtorEq,aW,Zy,AD,bI,cG,cV,kR,aX,BS,if_pos rfl,ET,take_mapl,BB, *]
      all_goals first
        | (simp; done)
        | (refine fK [] [(180,2)] (i+1,[l.getD i default]) ?_ ?_ ?_ ?_ ?_ ?_ <;> first | (simp [stOk,cC,stM,nameT,lk,Blk.tr,bP,trss,trs,CP,aW,bT _ pure_encI]; done) | (simp [trs,CP,Mt,bT _ pure_encI,stT,nameT,lk]; grind [aR,aJ]) | grind [iL])
        | (refine fK [] [] (i+1,[]) ?_ ?_ ?_ ?_ ?_ ?_ <;> first | (simp [stOk,cC,stM,nameT,lk,Blk.tr,bP,trss,trs,CP,aW,bT _ pure_encI]; done) | (simp [trs,CP,Mt,bT _ pure_encI,stT,nameT,lk]; grind [aR,aJ]) | grind [iL])
        | (refine fK [] [(2,2)] (i+1,[]) ?_ ?_ ?_ ?_ ?_ ?_ <;> first | (simp [stOk,cC,stM,nameT,lk,Blk.tr,bP,trss,trs,CP,aW,bT _ pure_encI]; done) | (simp [trs,CP,Mt,bT _ pure_encI,stT,nameT,lk]; grind [aR,aJ]) | grind [iL])
        | (simp [fU,bG pure_encI]; done)
        | (have hi:i=l.length:=by grind
           subst hi
           simp only [DO,lU] at hJ3
           rw [← hJ3]
           first | exact Wk.nil _ | (refine Wk.of_eq ?_; simp [take_mapl]; done))
        | grind [aD,aR,aJ,lU,DO]
        | skip
    · simp -implicitDefEqProofs only [if_neg hne]
      simp only [] at hJ1 hJ2 hJ3
      repeat' with_reducible first|refine aO (fun h=>?_) (fun h=>?_)|refine aT (fun h=>?_) (fun h=>?_)|refine aC (fun h=>?_) (fun h=>?_)|refine aH (fun h=>?_) (fun h=>?_)|refine sH ?_ ?_ ?_ rfl ?_|refine aP ?_ ?_|refine aU ?_ ?_|refine bE ?_ ?_|refine dR (d:=default) ?_ ?_|refine AC.view [2] ?_ ?_ ?_|refine ACV.of (oB (l:=out)) ?_ ?_ ?_|refine ACV.of (vT (oB (l:=[]))) ?_ ?_ ?_|simp -implicitDefEqProofs only [tI,qA,aZ,bJ,aF,aL,qU,Zj,Zs,Zt,Zo,Zk,Zu,reduceIte,reduceCtorEq,aW,Zy,AD,bI,cG,cV,kR,aX,BS,if_pos rfl,ET,take_mapl,BB, *]
      all_goals first
        | (simp; done)
        | (refine fK [] [(180,2)] (i+1,out ++ [l.getD i default]) ?_ ?_ ?_ ?_ ?_ ?_ <;> first | (simp [stOk,cC,stM,nameT,lk,Blk.tr,bP,trss,trs,CP,aW,bT _ pure_encI,hne]; done) | (simp [trs,CP,Mt,bT _ pure_encI,stT,nameT,lk,hne]; grind [aR,aJ]) | grind [iL])
        | (refine fK [] [] (i+1,[]) ?_ ?_ ?_ ?_ ?_ ?_ <;> first | (simp [stOk,cC,stM,nameT,lk,Blk.tr,bP,trss,trs,CP,aW,bT _ pure_encI,hne]; done) | (simp [trs,CP,Mt,bT _ pure_encI,stT,nameT,lk,hne]; grind [aR,aJ]) | grind [iL])
        | (refine fK [] [(2,2)] (i+1,out) ?_ ?_ ?_ ?_ ?_ ?_ <;> first | (simp [stOk,cC,stM,nameT,lk,Blk.tr,bP,trss,trs,CP,aW,bT _ pure_encI,hne]; done) | (simp [trs,CP,Mt,bT _ pure_encI,stT,nameT,lk,hne]; grind [aR,aJ]) | grind [iL])
        | (simp [fU,bG pure_encI]; done)
        | (have hi:i=l.length:=by grind
           subst hi
           simp only [DO,lU] at hJ3
           rw [← hJ3]
           first | exact Wk.nil _ | (refine Wk.of_eq ?_; simp [take_mapl]; done))
        | grind [aD,aR,aJ,lU,DO]
        | skip
  all_goals first
    | (simp; done)
    | (simp [stOk,cC,stM,trs,CP,Mt,bT _ pure_encI]; done)

def xY:AFn:=⟨16,(.seq (.reg [o1 2 (.mv (.const (.bool false)))]) (.seq (.reg [o1 3 (.mv (.func 140))]) (.seq (.reg [o1 4 (.mv 0),o1 5 (.mv 3),o1 6 (.call 101 [4,5]),o1 7 (.not 6),o1 8 (.mv 7),o3 9 (.mv 0) 8,o3 10 (.call 141 [9]) 8,o3 11 (.len 10) 8,o3 12 (.mv 0) 8,o3 13 (.len 12) 8,o3 14 (.bin .eql 11 13) 8,o1 15 (.pick 8 14 (.const (.bool false))),o1 2 (.mv 15)]) .ret))),[(2,none)]⟩
theorem Jc:xf Zi 100=some xY:=by kernel_rfl
theorem kG  {l:List Int} (hl:l.length≤1000000000):bO Zi 100 [.slv 1 (l.map aW)] ((.bool (oI l)),[],[]):=by
  refine aG cD Jc (by simp [xY]) fun hw _=>?_
  simp only [eP,BW,aD] at hw
  repeat' with_reducible first|refine aO (fun h=>?_) (fun h=>?_)|refine aT (fun h=>?_) (fun h=>?_)|refine aC (fun h=>?_) (fun h=>?_)|refine aH (fun h=>?_) (fun h=>?_)|refine aN ?_ ?_ ?_ ?_|refine aP ?_ ?_|refine aU ?_ ?_|refine bE ?_ ?_|refine P0 (vE (p:=oJ) (caps:=[]) rfl (fun x _=>Bq)) ?_ ?_ ?_|refine P0 (rD ?_) ?_ ?_ ?_|refine ACV.of (rD ?_) ?_ ?_ ?_|refine ACK.of (rD ?_) ?_ ?_|simp -implicitDefEqProofs only [xY,qA,aZ,bJ,aF,aL,qU,Zj,Zs,Zt,Zo,Zk,Zu,reduceIte,reduceCtorEq, *]
  all_goals first
    | (simp; done)
    | exact aE
    | exact aE.symm
    | grind [aD,aR,aJ,oI]

def Dw:AFn:=⟨11,(.seq (.reg [o1 4 (.mv (ci 0))]) (.seq (.seq (.reg [o1 5 (.mv 0),o1 6 (.call 100 [5]),o1 7 (.not 6)]) (.cond 7 (.seq (.reg [o1 4 (.mv (ci (-1)))]) .ret) .skip)) (.seq (.reg [o1 8 (.mv 0),o1 9 (.mv 1),o1 10 (.call 195 [8,9]),o1 4 (.mv 10)]) .ret))),[(4,none)]⟩
theorem Ph:xf Zi 137=some Dw:=by kernel_rfl
def Fd:AFn:=⟨9,(.seq (.reg [o1 4 (.mv (.const (.bool false)))]) (.seq (.reg [o1 5 (.mv 0),o1 6 (.mv 1),o1 7 (.call 137 [5,6]),o1 8 (.bin .eql 7 (ci 0)),o1 4 (.mv 8)]) .ret)),[(4,none)]⟩
theorem Qx:xf Zi 247=some Fd:=by kernel_rfl
end Go.Sak
