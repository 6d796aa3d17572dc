/- Part T31 of the proofs about the program: K31. Conditions: none. -/
import Derived.Test.YtahdilehajdhgaaGreatT13
open Bool renaming decide_and→V5
open Int renaming natCast_zero→F1,toNat_natCast→E0
open List renaming reduceReplicate→D1
open Nat renaming reduceAdd→D4,reduceEqDiff→D0,reduceLeDiff→D3,reduceMul→D6,reduceSub→D5
open Go.Proofs.Tryz renaming prog→D8
namespace Go.Sak
open Go Go.RowKit Go.Proofs
set_option linter.unusedVariables false
set_option linter.unusedSimpArgs false
set_option maxRecDepth 10000
set_option maxHeartbeats 8000000
theorem Dy (x y:Thread):cellsEq (bH x) (bH y)=some (decide (x=y)):=by
  obtain ⟨x1,x2,x3,x4,x5,x6,x7,x8,x9,Dr,Hh⟩:=x
  obtain ⟨y1,y2,y3,y4,y5,y6,y7,y8,y9,y10,y11⟩:=y
  simp [bH,cellsEq,V5]
  cases x9 <;> cases y9 <;> simp
theorem NW (x y:Entry):cellsEq (cO x) (cO y)=some (decide (x=y)):=by
  obtain ⟨x1,x2,x3,x4,x5⟩:=x
  obtain ⟨y1,y2,y3,y4,y5⟩:=y
  simp [cO,cellsEq,V5]
theorem wC (x y:Slot):cellsEq (cU x) (cU y)=some (decide (x=y)):=by
  obtain ⟨x1,x2⟩:=x
  obtain ⟨y1,y2⟩:=y
  simp [cU,cellsEq,V5]
theorem oG (x y:Word):cellsEq (hX x) (hX y)=some (decide (x=y)):=by
  obtain ⟨x1,x2,x3⟩:=x
  obtain ⟨y1,y2,y3⟩:=y
  simp [hX,cellsEq,V5]
theorem Gj {iM:Bool} {ks:List CK} {xs ys:List AV} {r:Bool} (hx:kindOk ks xs=true) (hy:kindOk ks ys=true) (h:cellsEq xs ys=some r):aP iM ks (.agg xs) (.agg ys)=some (.bool (neg? iM r)):=by
  simp only [aP,hx,hy,h]; rfl
theorem nF (iM:Bool) (x y:Thread):aP iM [.int .i64,.int .i64,.int .i64,.int .i64,.int .i64,.int .i64,.int .i64,.int .i64,.bool,.int .i64,.int .i64] (.agg (bH x)) (.agg (bH y))=some (.bool (neg? iM (decide (x=y)))):=Gj rfl rfl (Dy x y)
theorem zZ (iM:Bool) (x y:Entry):aP iM [.int .i64,.int .i64,.int .i64,.int .i64,.int .i64] (.agg (cO x)) (.agg (cO y))=some (.bool (neg? iM (decide (x=y)))):=Gj rfl rfl (NW x y)
theorem Aa (iM:Bool) (x y:Slot):aP iM [.int .i64,.int .i64] (.agg (cU x)) (.agg (cU y))=some (.bool (neg? iM (decide (x=y)))):=Gj rfl rfl (wC x y)
theorem wB (iM:Bool) (x y:Word):aP iM [.int .i64,.int .i64,.int .i64] (.agg (hX x)) (.agg (hX y))=some (.bool (neg? iM (decide (x=y)))):=Gj rfl rfl (oG x y)
theorem wY {α:Type} [DecidableEq α] [Inhabited α] {a b:List α} {i:Nat} (hi:i<a.length) (h:¬ a.getD i default=b.getD i default):decide (a=b)=false:=by
  simp; intro e; subst e; exact h rfl
theorem mJ {α:Type} [DecidableEq α] {a b:List α} (h:¬ (a.length:Int)=(b.length:Int)):decide (a=b)=false:=by
  simp; intro e; subst e; exact h rfl
theorem mK {α:Type} [DecidableEq α] [Inhabited α] {a b:List α} {i:Nat} (hi:¬ (i:Int)<(a.length:Int)) (hl:a.length=b.length) (h:∀ j,j<i→a.getD j default=b.getD j default):decide (a=b)=true:=by
  simp
  refine List.ext_getElem hl fun j h1 h2=>?_
  have:=h j (by omega)
  simpa [List.getD_eq_getElem?_getD,h1,h2] using this
theorem wZ {α:Type} [Inhabited α] {a b:List α} {i:Nat} (h0:∀ j,j<i→a.getD j default=b.getD j default) (h:a.getD i default=b.getD i default):∀ j,j<i+1→a.getD j default=b.getD j default:=fun j hj=>by
  by_cases e:j=i
  · subst e; exact h
  · exact h0 j (by omega)
def HP:AFn:=⟨26,(.seq (.reg [o1 4 (.mv (.const (.bool false)))]) (.seq (.seq (.reg [o1 6 (.mv 0),o1 7 (.len 6),o1 8 (.mv 1),o1 9 (.len 8),o1 10 (.bin .neq 7 9)]) (.cond 10 (.seq (.reg [o1 4 (.mv (.const (.bool false)))]) .ret) .skip)) (.seq (.seq (.reg [o1 5 (.mv (ci 0))]) (.block 0 (.loop (.seq (.seq (.reg [o1 11 (.mv 5),o1 12 (.mv 0),o1 13 (.len 12),o1 14 (.bin .lss 11 13)]) (.cond 14 .skip (.exit 0))) (.seq (.block 1 (.seq (.regT [o1 17 (.mv 0),o1 18 (.mv 5),o1 19 (.iaddr 1 17 18),o1 20 (.ld 1 false 19),o1 21 (.mv 1),o1 22 (.mv 5),o1 23 (.iaddr 1 21 22),o1 24 (.ld 1 false 23),o1 25 (.bin .neq 20 24)] [(2,6),(3,6),(2,7),(3,7)]) (.cond 25 (.seq (.reg [o1 4 (.mv (.const (.bool false)))]) .ret) .skip))) (.reg [o1 15 (.mv 5),o1 16 (.bin .add 15 (ci 1)),o1 5 (.mv 16)])))))) (.seq (.reg [o1 4 (.mv (.const (.bool true)))]) .ret)))),[(4,none)]⟩
theorem Hi:xf D8 19=some HP:=by kernel_rfl
theorem mY {a b:List Int} (ha:a.length≤1000000000):cX D8 19 [.slv 1 (a.map aS),.slv 1 (b.map aS)] (.bool (decide (a=b)),[],[]):=by
  cases hL:decide ((a.length:Int)=(b.length:Int)) with
  | false =>
    refine aI bP Hi (by simp [HP]) fun hw _=>?_
    repeat' with_reducible first|refine aQ (fun h=>?_) (fun h=>?_)|refine bB (fun h=>?_) (fun h=>?_)|refine aF (fun h=>?_) (fun h=>?_)|refine aH (fun h=>?_) (fun h=>?_)|refine bJ ?_ ?_ ?_ ?_|refine aR ?_ ?_|refine bC ?_ ?_|refine bM ?_ ?_|simp -implicitDefEqProofs only [HP,qA,cS,cW,aJ,qU,D1,D4,D5,D3,D0,D6,reduceIte,reduceCtorEq,aS,E0,F1,hL, *]
    all_goals first
      | (simp; done)
      | exact congrArg AV.bool (mJ (by simpa using hL)).symm
      | (simpa using mJ (by simpa using hL))
      | skip
  | true =>
    have hl:a.length=b.length:=by simp at hL; omega
    refine aI bP Hi (by simp [HP]) fun hw _=>?_
    simp -implicitDefEqProofs only [HP,qA,cS,cW,aJ,qU,D1,D4,D5,D3,D0,D6,reduceIte,reduceCtorEq,hL,aS,E0,F1]
    refine xA (fun i:Nat=>[some (.slv 1 (a.map aS)),some (.slv 1 (b.map aS)),none,none,some (.bool false),some (.int .i64 i),none,none,none,none,none,none,none,none,none,none,none,none,none,none,none,none,none,none,none,none]) (fun i=>i≤a.length∧∀ j,j<i→a.getD j default=b.getD j default) (fun i=>a.length - i) 0 ?_ ?_ ?_ ?_ ?_
    rotate_right
    · intro i hJ
      simp only [dL,dK,all_nil]
      intros
      repeat' with_reducible first|refine aQ (fun h=>?_) (fun h=>?_)|refine bB (fun h=>?_) (fun h=>?_)|refine aF (fun h=>?_) (fun h=>?_)|refine aH (fun h=>?_) (fun h=>?_)|refine bJ ?_ ?_ ?_ ?_|refine aR ?_ ?_|refine bC ?_ ?_|refine bM ?_ ?_|refine eK (d:=default) ?_ ?_|refine xD (i+1) ?_ ?_ ?_ ?_ ?_|simp -implicitDefEqProofs only [HP,qA,cS,cW,aJ,qU,D1,D4,D5,D3,D0,D6,reduceIte,reduceCtorEq,aS,E0,F1,hL, *]
      all_goals first
        | (simp; done)
        | (refine congrArg AV.bool (wY (i:=i) ?_ ?_).symm <;> grind)
        | (refine congrArg AV.bool (mK (i:=i) ?_ ?_ ?_).symm <;> grind)
        | exact mK (i:=i) (by simp only [decide_eq_false_iff_not] at h; omega) hl hJ.2
        | (refine ⟨by grind,wZ ?_ ?_⟩ <;> grind)
        | grind [aY,bL,bI]
        | skip
    all_goals first
      | (simp; done)
      | (simp -implicitDefEqProofs only [HP,qA,cS,cW,aJ,qU,D1,D4,D5,D3,D0,D6,reduceIte,reduceCtorEq,hL,aS,E0,F1]; done)
      | skip

def JH:AFn:=⟨26,(.seq (.reg [o1 4 (.mv (.const (.bool false)))]) (.seq (.seq (.reg [o1 6 (.mv 0),o1 7 (.len 6),o1 8 (.mv 1),o1 9 (.len 8),o1 10 (.bin .neq 7 9)]) (.cond 10 (.seq (.reg [o1 4 (.mv (.const (.bool false)))]) .ret) .skip)) (.seq (.seq (.reg [o1 5 (.mv (ci 0))]) (.block 0 (.loop (.seq (.seq (.reg [o1 11 (.mv 5),o1 12 (.mv 0),o1 13 (.len 12),o1 14 (.bin .lss 11 13)]) (.cond 14 .skip (.exit 0))) (.seq (.block 1 (.seq (.regT [o1 17 (.mv 0),o1 18 (.mv 5),o1 19 (.iaddr 1 17 18),o1 20 (.ld 1 false 19),o1 21 (.mv 1),o1 22 (.mv 5),o1 23 (.iaddr 1 21 22),o1 24 (.ld 1 false 23),o1 25 (.bin .neq 20 24)] [(2,6),(3,6),(2,7),(3,7)]) (.cond 25 (.seq (.reg [o1 4 (.mv (.const (.bool false)))]) .ret) .skip))) (.reg [o1 15 (.mv 5),o1 16 (.bin .add 15 (ci 1)),o1 5 (.mv 16)])))))) (.seq (.reg [o1 4 (.mv (.const (.bool true)))]) .ret)))),[(4,none)]⟩
theorem YZ:xf D8 68=some JH:=by kernel_rfl
theorem Bc {a b:List Int} (ha:a.length≤1000000000):cX D8 68 [.slv 1 (a.map aS),.slv 1 (b.map aS)] (.bool (decide (a=b)),[],[]):=by
  cases hL:decide ((a.length:Int)=(b.length:Int)) with
  | false =>
    refine aI bP YZ (by simp [JH]) fun hw _=>?_
    repeat' with_reducible first|refine aQ (fun h=>?_) (fun h=>?_)|refine bB (fun h=>?_) (fun h=>?_)|refine aF (fun h=>?_) (fun h=>?_)|refine aH (fun h=>?_) (fun h=>?_)|refine bJ ?_ ?_ ?_ ?_|refine aR ?_ ?_|refine bC ?_ ?_|refine bM ?_ ?_|simp -implicitDefEqProofs only [JH,qA,cS,cW,aJ,qU,D1,D4,D5,D3,D0,D6,reduceIte,reduceCtorEq,aS,E0,F1,hL, *]
    all_goals first
      | (simp; done)
      | exact congrArg AV.bool (mJ (by simpa using hL)).symm
      | (simpa using mJ (by simpa using hL))
      | skip
  | true =>
    have hl:a.length=b.length:=by simp at hL; omega
    refine aI bP YZ (by simp [JH]) fun hw _=>?_
    simp -implicitDefEqProofs only [JH,qA,cS,cW,aJ,qU,D1,D4,D5,D3,D0,D6,reduceIte,reduceCtorEq,hL,aS,E0,F1]
    refine xA (fun i:Nat=>[some (.slv 1 (a.map aS)),some (.slv 1 (b.map aS)),none,none,some (.bool false),some (.int .i64 i),none,none,none,none,none,none,none,none,none,none,none,none,none,none,none,none,none,none,none,none]) (fun i=>i≤a.length∧∀ j,j<i→a.getD j default=b.getD j default) (fun i=>a.length - i) 0 ?_ ?_ ?_ ?_ ?_
    rotate_right
    · intro i hJ
      simp only [dL,dK,all_nil]
      intros
      repeat' with_reducible first|refine aQ (fun h=>?_) (fun h=>?_)|refine bB (fun h=>?_) (fun h=>?_)|refine aF (fun h=>?_) (fun h=>?_)|refine aH (fun h=>?_) (fun h=>?_)|refine bJ ?_ ?_ ?_ ?_|refine aR ?_ ?_|refine bC ?_ ?_|refine bM ?_ ?_|refine eK (d:=default) ?_ ?_|refine xD (i+1) ?_ ?_ ?_ ?_ ?_|simp -implicitDefEqProofs only [JH,qA,cS,cW,aJ,qU,D1,D4,D5,D3,D0,D6,reduceIte,reduceCtorEq,aS,E0,F1,hL, *]
      all_goals first
        | (simp; done)
        | (refine congrArg AV.bool (wY (i:=i) ?_ ?_).symm <;> grind)
        | (refine congrArg AV.bool (mK (i:=i) ?_ ?_ ?_).symm <;> grind)
        | exact mK (i:=i) (by simp only [decide_eq_false_iff_not] at h; omega) hl hJ.2
        | (refine ⟨by grind,wZ ?_ ?_⟩ <;> grind)
        | grind [aY,bL,bI]
        | skip
    all_goals first
      | (simp; done)
      | (simp -implicitDefEqProofs only [JH,qA,cS,cW,aJ,qU,D1,D4,D5,D3,D0,D6,reduceIte,reduceCtorEq,hL,aS,E0,F1]; done)
      | skip

def JE:AFn:=⟨26,(.seq (.reg [o1 4 (.mv (.const (.bool false)))]) (.seq (.seq (.reg [o1 6 (.mv 0),o1 7 (.len 6),o1 8 (.mv 1),o1 9 (.len 8),o1 10 (.bin .neq 7 9)]) (.cond 10 (.seq (.reg [o1 4 (.mv (.const (.bool false)))]) .ret) .skip)) (.seq (.seq (.reg [o1 5 (.mv (ci 0))]) (.block 0 (.loop (.seq (.seq (.reg [o1 11 (.mv 5),o1 12 (.mv 0),o1 13 (.len 12),o1 14 (.bin .lss 11 13)]) (.cond 14 .skip (.exit 0))) (.seq (.block 1 (.seq (.regT [o1 17 (.mv 0),o1 18 (.mv 5),o1 19 (.iaddr 2 17 18),o1 20 (.ld 2 true 19),o1 21 (.mv 1),o1 22 (.mv 5),o1 23 (.iaddr 2 21 22),o1 24 (.ld 2 true 23),o1 25 (.eqs true [(.int .i64),(.int .i64)] 20 24)] [(2,6),(3,6),(2,7),(3,7)]) (.cond 25 (.seq (.reg [o1 4 (.mv (.const (.bool false)))]) .ret) .skip))) (.reg [o1 15 (.mv 5),o1 16 (.bin .add 15 (ci 1)),o1 5 (.mv 16)])))))) (.seq (.reg [o1 4 (.mv (.const (.bool true)))]) .ret)))),[(4,none)]⟩
theorem YK:xf D8 46=some JE:=by kernel_rfl
theorem Vs {a b:List Slot} (ha:a.length≤1000000000):cX D8 46 [.slv 2 (a.map cU),.slv 2 (b.map cU)] (.bool (decide (a=b)),[],[]):=by
  cases hL:decide ((a.length:Int)=(b.length:Int)) with
  | false =>
    refine aI bP YK (by simp [JE]) fun hw _=>?_
    repeat' with_reducible first|refine aQ (fun h=>?_) (fun h=>?_)|refine bB (fun h=>?_) (fun h=>?_)|refine aF (fun h=>?_) (fun h=>?_)|refine aH (fun h=>?_) (fun h=>?_)|refine bJ ?_ ?_ ?_ ?_|refine aR ?_ ?_|refine bC ?_ ?_|refine bM ?_ ?_|simp -implicitDefEqProofs only [JE,qA,cS,cW,aJ,qU,D1,D4,D5,D3,D0,D6,reduceIte,reduceCtorEq,len_encS,mF,Aa,E0,F1,hL, *]
    all_goals first
      | (simp; done)
      | exact congrArg AV.bool (mJ (by simpa using hL)).symm
      | (simpa using mJ (by simpa using hL))
      | skip
  | true =>
    have hl:a.length=b.length:=by simp at hL; omega
    refine aI bP YK (by simp [JE]) fun hw _=>?_
    simp -implicitDefEqProofs only [JE,qA,cS,cW,aJ,qU,D1,D4,D5,D3,D0,D6,reduceIte,reduceCtorEq,hL,len_encS,mF,Aa,E0,F1]
    refine xA (fun i:Nat=>[some (.slv 2 (a.map cU)),some (.slv 2 (b.map cU)),none,none,some (.bool false),some (.int .i64 i),none,none,none,none,none,none,none,none,none,none,none,none,none,none,none,none,none,none,none,none]) (fun i=>i≤a.length∧∀ j,j<i→a.getD j default=b.getD j default) (fun i=>a.length - i) 0 ?_ ?_ ?_ ?_ ?_
    rotate_right
    · intro i hJ
      simp only [dL,dK,all_nil]
      intros
      repeat' with_reducible first|refine aQ (fun h=>?_) (fun h=>?_)|refine bB (fun h=>?_) (fun h=>?_)|refine aF (fun h=>?_) (fun h=>?_)|refine aH (fun h=>?_) (fun h=>?_)|refine bJ ?_ ?_ ?_ ?_|refine aR ?_ ?_|refine bC ?_ ?_|refine bM ?_ ?_|refine eK (d:=default) ?_ ?_|refine xD (i+1) ?_ ?_ ?_ ?_ ?_|simp -implicitDefEqProofs only [JE,qA,cS,cW,aJ,qU,D1,D4,D5,D3,D0,D6,reduceIte,reduceCtorEq,len_encS,mF,Aa,E0,F1,hL, *]
      all_goals first
        | (simp; done)
        | (refine congrArg AV.bool (wY (i:=i) ?_ ?_).symm <;> grind)
        | (refine congrArg AV.bool (mK (i:=i) ?_ ?_ ?_).symm <;> grind)
        | exact mK (i:=i) (by simp only [decide_eq_false_iff_not] at h; omega) hl hJ.2
        | (refine ⟨by grind,wZ ?_ ?_⟩ <;> grind)
        | grind [aY,bL,bI]
        | skip
    all_goals first
      | (simp; done)
      | (simp -implicitDefEqProofs only [JE,qA,cS,cW,aJ,qU,D1,D4,D5,D3,D0,D6,reduceIte,reduceCtorEq,hL,len_encS,mF,Aa,E0,F1]; done)
      | skip

def JF:AFn:=⟨26,(.seq (.reg [o1 4 (.mv (.const (.bool false)))]) (.seq (.seq (.reg [o1 6 (.mv 0),o1 7 (.len 6),o1 8 (.mv 1),o1 9 (.len 8),o1 10 (.bin .neq 7 9)]) (.cond 10 (.seq (.reg [o1 4 (.mv (.const (.bool false)))]) .ret) .skip)) (.seq (.seq (.reg [o1 5 (.mv (ci 0))]) (.block 0 (.loop (.seq (.seq (.reg [o1 11 (.mv 5),o1 12 (.mv 0),o1 13 (.len 12),o1 14 (.bin .lss 11 13)]) (.cond 14 .skip (.exit 0))) (.seq (.block 1 (.seq (.regT [o1 17 (.mv 0),o1 18 (.mv 5),o1 19 (.iaddr 11 17 18),o1 20 (.ld 11 true 19),o1 21 (.mv 1),o1 22 (.mv 5),o1 23 (.iaddr 11 21 22),o1 24 (.ld 11 true 23),o1 25 (.eqs true [(.int .i64),(.int .i64),(.int .i64),(.int .i64),(.int .i64),(.int .i64),(.int .i64),(.int .i64),.bool,(.int .i64),(.int .i64)] 20 24)] [(2,6),(3,6),(2,7),(3,7)]) (.cond 25 (.seq (.reg [o1 4 (.mv (.const (.bool false)))]) .ret) .skip))) (.reg [o1 15 (.mv 5),o1 16 (.bin .add 15 (ci 1)),o1 5 (.mv 16)])))))) (.seq (.reg [o1 4 (.mv (.const (.bool true)))]) .ret)))),[(4,none)]⟩
theorem YL:xf D8 48=some JF:=by kernel_rfl
theorem Vu {a b:List Thread} (ha:a.length≤1000000000):cX D8 48 [.slv 11 (a.map bH),.slv 11 (b.map bH)] (.bool (decide (a=b)),[],[]):=by
  cases hL:decide ((a.length:Int)=(b.length:Int)) with
  | false =>
    refine aI bP YL (by simp [JF]) fun hw _=>?_
    repeat' with_reducible first|refine aQ (fun h=>?_) (fun h=>?_)|refine bB (fun h=>?_) (fun h=>?_)|refine aF (fun h=>?_) (fun h=>?_)|refine aH (fun h=>?_) (fun h=>?_)|refine bJ ?_ ?_ ?_ ?_|refine aR ?_ ?_|refine bC ?_ ?_|refine bM ?_ ?_|simp -implicitDefEqProofs only [JF,qA,cS,cW,aJ,qU,D1,D4,D5,D3,D0,D6,reduceIte,reduceCtorEq,len_encT,mG,nF,E0,F1,hL, *]
    all_goals first
      | (simp; done)
      | exact congrArg AV.bool (mJ (by simpa using hL)).symm
      | (simpa using mJ (by simpa using hL))
      | skip
  | true =>
    have hl:a.length=b.length:=by simp at hL; omega
    refine aI bP YL (by simp [JF]) fun hw _=>?_
    simp -implicitDefEqProofs only [JF,qA,cS,cW,aJ,qU,D1,D4,D5,D3,D0,D6,reduceIte,reduceCtorEq,hL,len_encT,mG,nF,E0,F1]
    refine xA (fun i:Nat=>[some (.slv 11 (a.map bH)),some (.slv 11 (b.map bH)),none,none,some (.bool false),some (.int .i64 i),none,none,none,none,none,none,none,none,none,none,none,none,none,none,none,none,none,none,none,none]) (fun i=>i≤a.length∧∀ j,j<i→a.getD j default=b.getD j default) (fun i=>a.length - i) 0 ?_ ?_ ?_ ?_ ?_
    rotate_right
    · intro i hJ
      simp only [dL,dK,all_nil]
      intros
      repeat' with_reducible first|refine aQ (fun h=>?_) (fun h=>?_)|refine bB (fun h=>?_) (fun h=>?_)|refine aF (fun h=>?_) (fun h=>?_)|refine aH (fun h=>?_) (fun h=>?_)|refine bJ ?_ ?_ ?_ ?_|refine aR ?_ ?_|refine bC ?_ ?_|refine bM ?_ ?_|refine eK (d:=default) ?_ ?_|refine xD (i+1) ?_ ?_ ?_ ?_ ?_|simp -implicitDefEqProofs only [JF,qA,cS,cW,aJ,qU,D1,D4,D5,D3,D0,D6,reduceIte,reduceCtorEq,len_encT,mG,nF,E0,F1,hL, *]
      all_goals first
        | (simp; done)
        | (refine congrArg AV.bool (wY (i:=i) ?_ ?_).symm <;> grind)
        | (refine congrArg AV.bool (mK (i:=i) ?_ ?_ ?_).symm <;> grind)
        | exact mK (i:=i) (by simp only [decide_eq_false_iff_not] at h; omega) hl hJ.2
        | (refine ⟨by grind,wZ ?_ ?_⟩ <;> grind)
        | grind [aY,bL,bI]
        | skip
    all_goals first
      | (simp; done)
      | (simp -implicitDefEqProofs only [JF,qA,cS,cW,aJ,qU,D1,D4,D5,D3,D0,D6,reduceIte,reduceCtorEq,hL,len_encT,mG,nF,E0,F1]; done)
      | skip

def JB:AFn:=⟨26,(.seq (.reg [o1 4 (.mv (.const (.bool false)))]) (.seq (.seq (.reg [o1 6 (.mv 0),o1 7 (.len 6),o1 8 (.mv 1),o1 9 (.len 8),o1 10 (.bin .neq 7 9)]) (.cond 10 (.seq (.reg [o1 4 (.mv (.const (.bool false)))]) .ret) .skip)) (.seq (.seq (.reg [o1 5 (.mv (ci 0))]) (.block 0 (.loop (.seq (.seq (.reg [o1 11 (.mv 5),o1 12 (.mv 0),o1 13 (.len 12),o1 14 (.bin .lss 11 13)]) (.cond 14 .skip (.exit 0))) (.seq (.block 1 (.seq (.regT [o1 17 (.mv 0),o1 18 (.mv 5),o1 19 (.iaddr 5 17 18),o1 20 (.ld 5 true 19),o1 21 (.mv 1),o1 22 (.mv 5),o1 23 (.iaddr 5 21 22),o1 24 (.ld 5 true 23),o1 25 (.eqs true [(.int .i64),(.int .i64),(.int .i64),(.int .i64),(.int .i64)] 20 24)] [(2,6),(3,6),(2,7),(3,7)]) (.cond 25 (.seq (.reg [o1 4 (.mv (.const (.bool false)))]) .ret) .skip))) (.reg [o1 15 (.mv 5),o1 16 (.bin .add 15 (ci 1)),o1 5 (.mv 16)])))))) (.seq (.reg [o1 4 (.mv (.const (.bool true)))]) .ret)))),[(4,none)]⟩
theorem YH:xf D8 31=some JB:=by kernel_rfl
theorem pI {a b:List Entry} (ha:a.length≤1000000000):cX D8 31 [.slv 5 (a.map cO),.slv 5 (b.map cO)] (.bool (decide (a=b)),[],[]):=by
  cases hL:decide ((a.length:Int)=(b.length:Int)) with
  | false =>
    refine aI bP YH (by simp [JB]) fun hw _=>?_
    repeat' with_reducible first|refine aQ (fun h=>?_) (fun h=>?_)|refine bB (fun h=>?_) (fun h=>?_)|refine aF (fun h=>?_) (fun h=>?_)|refine aH (fun h=>?_) (fun h=>?_)|refine bJ ?_ ?_ ?_ ?_|refine aR ?_ ?_|refine bC ?_ ?_|refine bM ?_ ?_|simp -implicitDefEqProofs only [JB,qA,cS,cW,aJ,qU,D1,D4,D5,D3,D0,D6,reduceIte,reduceCtorEq,wW,uB,zZ,E0,F1,hL, *]
    all_goals first
      | (simp; done)
      | exact congrArg AV.bool (mJ (by simpa using hL)).symm
      | (simpa using mJ (by simpa using hL))
      | skip
  | true =>
    have hl:a.length=b.length:=by simp at hL; omega
    refine aI bP YH (by simp [JB]) fun hw _=>?_
    simp -implicitDefEqProofs only [JB,qA,cS,cW,aJ,qU,D1,D4,D5,D3,D0,D6,reduceIte,reduceCtorEq,hL,wW,uB,zZ,E0,F1]
    refine xA (fun i:Nat=>[some (.slv 5 (a.map cO)),some (.slv 5 (b.map cO)),none,none,some (.bool false),some (.int .i64 i),none,none,none,none,none,none,none,none,none,none,none,none,none,none,none,none,none,none,none,none]) (fun i=>i≤a.length∧∀ j,j<i→a.getD j default=b.getD j default) (fun i=>a.length - i) 0 ?_ ?_ ?_ ?_ ?_
    rotate_right
    · intro i hJ
      simp only [dL,dK,all_nil]
      intros
      repeat' with_reducible first|refine aQ (fun h=>?_) (fun h=>?_)|refine bB (fun h=>?_) (fun h=>?_)|refine aF (fun h=>?_) (fun h=>?_)|refine aH (fun h=>?_) (fun h=>?_)|refine bJ ?_ ?_ ?_ ?_|refine aR ?_ ?_|refine bC ?_ ?_|refine bM ?_ ?_|refine eK (d:=default) ?_ ?_|refine xD (i+1) ?_ ?_ ?_ ?_ ?_|simp -implicitDefEqProofs only [JB,qA,cS,cW,aJ,qU,D1,D4,D5,D3,D0,D6,reduceIte,reduceCtorEq,wW,uB,zZ,E0,F1,hL, *]
      all_goals first
        | (simp; done)
        | (refine congrArg AV.bool (wY (i:=i) ?_ ?_).symm <;> grind)
        | (refine congrArg AV.bool (mK (i:=i) ?_ ?_ ?_).symm <;> grind)
        | exact mK (i:=i) (by simp only [decide_eq_false_iff_not] at h; omega) hl hJ.2
        | (refine ⟨by grind,wZ ?_ ?_⟩ <;> grind)
        | grind [aY,bL,bI]
        | skip
    all_goals first
      | (simp; done)
      | (simp -implicitDefEqProofs only [JB,qA,cS,cW,aJ,qU,D1,D4,D5,D3,D0,D6,reduceIte,reduceCtorEq,hL,wW,uB,zZ,E0,F1]; done)
      | skip

end Go.Sak
