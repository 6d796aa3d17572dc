/- Part T31 of the proofs about the program: K31. Conditions: none. -/
import Derived.Test.YtahdilehajdhgaaGreatT13
open Bool renaming decide_and→V6
open Int renaming natCast_zero→F2,toNat_natCast→E1
open List renaming reduceReplicate→D2
open Nat renaming reduceAdd→D5,reduceEqDiff→D1,reduceLeDiff→D4,reduceMul→D7,reduceSub→D6
open Go.Proofs.Tryz renaming prog→D9
namespace Go.Sak
open Go Go.RowKit Go.Proofs
set_option linter.unusedVariables false
set_option linter.unusedSimpArgs false
set_option maxRecDepth 10000
set_option maxHeartbeats 8000000
theorem Dz (x y:Thread):cellsEq (bH x) (bH y)=some (decide (x=y)):=by
  obtain ⟨x1,x2,x3,x4,x5,x6,x7,x8,x9,Ds,Hi⟩:=x
  obtain ⟨y1,y2,y3,y4,y5,y6,y7,y8,y9,y10,y11⟩:=y
  simp [bH,cellsEq,V6]
  cases x9 <;> cases y9 <;> simp
theorem NX (x y:Entry):cellsEq (cO x) (cO y)=some (decide (x=y)):=by
  obtain ⟨x1,x2,x3,x4,x5⟩:=x
  obtain ⟨y1,y2,y3,y4,y5⟩:=y
  simp [cO,cellsEq,V6]
theorem wD (x y:Slot):cellsEq (cU x) (cU y)=some (decide (x=y)):=by
  obtain ⟨x1,x2⟩:=x
  obtain ⟨y1,y2⟩:=y
  simp [cU,cellsEq,V6]
theorem oH (x y:Word):cellsEq (iA x) (iA y)=some (decide (x=y)):=by
  obtain ⟨x1,x2,x3⟩:=x
  obtain ⟨y1,y2,y3⟩:=y
  simp [iA,cellsEq,V6]
theorem Gk {iN:Bool} {ks:List CK} {xs ys:List AV} {r:Bool} (hx:kindOk ks xs=true) (hy:kindOk ks ys=true) (h:cellsEq xs ys=some r):aP iN ks (.agg xs) (.agg ys)=some (.bool (neg? iN r)):=by
  simp only [aP,hx,hy,h]; rfl
theorem nG (iN:Bool) (x y:Thread):aP iN [.int .i64,.int .i64,.int .i64,.int .i64,.int .i64,.int .i64,.int .i64,.int .i64,.bool,.int .i64,.int .i64] (.agg (bH x)) (.agg (bH y))=some (.bool (neg? iN (decide (x=y)))):=Gk rfl rfl (Dz x y)
theorem Aa (iN:Bool) (x y:Entry):aP iN [.int .i64,.int .i64,.int .i64,.int .i64,.int .i64] (.agg (cO x)) (.agg (cO y))=some (.bool (neg? iN (decide (x=y)))):=Gk rfl rfl (NX x y)
theorem Ab (iN:Bool) (x y:Slot):aP iN [.int .i64,.int .i64] (.agg (cU x)) (.agg (cU y))=some (.bool (neg? iN (decide (x=y)))):=Gk rfl rfl (wD x y)
theorem wC (iN:Bool) (x y:Word):aP iN [.int .i64,.int .i64,.int .i64] (.agg (iA x)) (.agg (iA y))=some (.bool (neg? iN (decide (x=y)))):=Gk rfl rfl (oH x y)
theorem wZ {α:Type} [DecidableEq α] [Inhabited α] {a b:List α} {i:Nat} (hi:i<a.length) (h:¬ a.getD i default=b.getD i default):decide (a=b)=false:=by
  simp; intro e; subst e; exact h rfl
theorem mK {α:Type} [DecidableEq α] {a b:List α} (h:¬ (a.length:Int)=(b.length:Int)):decide (a=b)=false:=by
  simp; intro e; subst e; exact h rfl
theorem mL {α:Type} [DecidableEq α] [Inhabited α] {a b:List α} {i:Nat} (hi:¬ (i:Int)<(a.length:Int)) (hl:a.length=b.length) (h:∀ j,j<i→a.getD j default=b.getD j default):decide (a=b)=true:=by
  simp
  refine List.ext_getElem hl fun j h1 h2=>?_
  have:=h j (by omega)
  simpa [List.getD_eq_getElem?_getD,h1,h2] using this
theorem xA {α:Type} [Inhabited α] {a b:List α} {i:Nat} (h0:∀ j,j<i→a.getD j default=b.getD j default) (h:a.getD i default=b.getD i default):∀ j,j<i+1→a.getD j default=b.getD j default:=fun j hj=>by
  by_cases e:j=i
  · subst e; exact h
  · exact h0 j (by omega)
def HQ:AFn:=⟨26,(.seq (.reg [o1 4 (.mv (.const (.bool false)))]) (.seq (.seq (.reg [o1 6 (.mv 0),o1 7 (.len 6),o1 8 (.mv 1),o1 9 (.len 8),o1 10 (.bin .neq 7 9)]) (.cond 10 (.seq (.reg [o1 4 (.mv (.const (.bool false)))]) .ret) .skip)) (.seq (.seq (.reg [o1 5 (.mv (ci 0))]) (.block 0 (.loop (.seq (.seq (.reg [o1 11 (.mv 5),o1 12 (.mv 0),o1 13 (.len 12),o1 14 (.bin .lss 11 13)]) (.cond 14 .skip (.exit 0))) (.seq (.block 1 (.seq (.regT [o1 17 (.mv 0),o1 18 (.mv 5),o1 19 (.iaddr 1 17 18),o1 20 (.ld 1 false 19),o1 21 (.mv 1),o1 22 (.mv 5),o1 23 (.iaddr 1 21 22),o1 24 (.ld 1 false 23),o1 25 (.bin .neq 20 24)] [(2,6),(3,6),(2,7),(3,7)]) (.cond 25 (.seq (.reg [o1 4 (.mv (.const (.bool false)))]) .ret) .skip))) (.reg [o1 15 (.mv 5),o1 16 (.bin .add 15 (ci 1)),o1 5 (.mv 16)])))))) (.seq (.reg [o1 4 (.mv (.const (.bool true)))]) .ret)))),[(4,none)]⟩
theorem Hj:xf D9 19=some HQ:=by kernel_rfl
theorem mZ {a b:List Int} (ha:a.length≤1000000000):cX D9 19 [.slv 1 (a.map aS),.slv 1 (b.map aS)] (.bool (decide (a=b)),[],[]):=by
  cases hL:decide ((a.length:Int)=(b.length:Int)) with
  | false =>
    refine aI bP Hj (by simp [HQ]) fun hw _=>?_
    repeat' with_reducible first|refine aQ (fun h=>?_) (fun h=>?_)|refine bB (fun h=>?_) (fun h=>?_)|refine aF (fun h=>?_) (fun h=>?_)|refine aH (fun h=>?_) (fun h=>?_)|refine bJ ?_ ?_ ?_ ?_|refine aR ?_ ?_|refine bC ?_ ?_|refine bM ?_ ?_|simp -implicitDefEqProofs only [HQ,qA,cS,cW,aJ,qU,D2,D5,D6,D4,D1,D7,reduceIte,reduceCtorEq,aS,E1,F2,hL, *]
    all_goals first
      | (simp; done)
      | exact congrArg AV.bool (mK (by simpa using hL)).symm
      | (simpa using mK (by simpa using hL))
      | skip
  | true =>
    have hl:a.length=b.length:=by simp at hL; omega
    refine aI bP Hj (by simp [HQ]) fun hw _=>?_
    simp -implicitDefEqProofs only [HQ,qA,cS,cW,aJ,qU,D2,D5,D6,D4,D1,D7,reduceIte,reduceCtorEq,hL,aS,E1,F2]
    refine xB (fun i:Nat=>[some (.slv 1 (a.map aS)),some (.slv 1 (b.map aS)),none,none,some (.bool false),some (.int .i64 i),none,none,none,none,none,none,none,none,none,none,none,none,none,none,none,none,none,none,none,none]) (fun i=>i≤a.length∧∀ j,j<i→a.getD j default=b.getD j default) (fun i=>a.length - i) 0 ?_ ?_ ?_ ?_ ?_
    rotate_right
    · intro i hJ
      simp only [dL,dK,all_nil]
      intros
      repeat' with_reducible first|refine aQ (fun h=>?_) (fun h=>?_)|refine bB (fun h=>?_) (fun h=>?_)|refine aF (fun h=>?_) (fun h=>?_)|refine aH (fun h=>?_) (fun h=>?_)|refine bJ ?_ ?_ ?_ ?_|refine aR ?_ ?_|refine bC ?_ ?_|refine bM ?_ ?_|refine eK (d:=default) ?_ ?_|refine xE (i+1) ?_ ?_ ?_ ?_ ?_|simp -implicitDefEqProofs only [HQ,qA,cS,cW,aJ,qU,D2,D5,D6,D4,D1,D7,reduceIte,reduceCtorEq,aS,E1,F2,hL, *]
      all_goals first
        | (simp; done)
        | (refine congrArg AV.bool (wZ (i:=i) ?_ ?_).symm <;> grind)
        | (refine congrArg AV.bool (mL (i:=i) ?_ ?_ ?_).symm <;> grind)
        | exact mL (i:=i) (by simp only [decide_eq_false_iff_not] at h; omega) hl hJ.2
        | (refine ⟨by grind,xA ?_ ?_⟩ <;> grind)
        | grind [aY,bL,bI]
        | skip
    all_goals first
      | (simp; done)
      | (simp -implicitDefEqProofs only [HQ,qA,cS,cW,aJ,qU,D2,D5,D6,D4,D1,D7,reduceIte,reduceCtorEq,hL,aS,E1,F2]; done)
      | skip

def JI:AFn:=⟨26,(.seq (.reg [o1 4 (.mv (.const (.bool false)))]) (.seq (.seq (.reg [o1 6 (.mv 0),o1 7 (.len 6),o1 8 (.mv 1),o1 9 (.len 8),o1 10 (.bin .neq 7 9)]) (.cond 10 (.seq (.reg [o1 4 (.mv (.const (.bool false)))]) .ret) .skip)) (.seq (.seq (.reg [o1 5 (.mv (ci 0))]) (.block 0 (.loop (.seq (.seq (.reg [o1 11 (.mv 5),o1 12 (.mv 0),o1 13 (.len 12),o1 14 (.bin .lss 11 13)]) (.cond 14 .skip (.exit 0))) (.seq (.block 1 (.seq (.regT [o1 17 (.mv 0),o1 18 (.mv 5),o1 19 (.iaddr 1 17 18),o1 20 (.ld 1 false 19),o1 21 (.mv 1),o1 22 (.mv 5),o1 23 (.iaddr 1 21 22),o1 24 (.ld 1 false 23),o1 25 (.bin .neq 20 24)] [(2,6),(3,6),(2,7),(3,7)]) (.cond 25 (.seq (.reg [o1 4 (.mv (.const (.bool false)))]) .ret) .skip))) (.reg [o1 15 (.mv 5),o1 16 (.bin .add 15 (ci 1)),o1 5 (.mv 16)])))))) (.seq (.reg [o1 4 (.mv (.const (.bool true)))]) .ret)))),[(4,none)]⟩
theorem ZA:xf D9 68=some JI:=by kernel_rfl
theorem Be {a b:List Int} (ha:a.length≤1000000000):cX D9 68 [.slv 1 (a.map aS),.slv 1 (b.map aS)] (.bool (decide (a=b)),[],[]):=by
  cases hL:decide ((a.length:Int)=(b.length:Int)) with
  | false =>
    refine aI bP ZA (by simp [JI]) fun hw _=>?_
    repeat' with_reducible first|refine aQ (fun h=>?_) (fun h=>?_)|refine bB (fun h=>?_) (fun h=>?_)|refine aF (fun h=>?_) (fun h=>?_)|refine aH (fun h=>?_) (fun h=>?_)|refine bJ ?_ ?_ ?_ ?_|refine aR ?_ ?_|refine bC ?_ ?_|refine bM ?_ ?_|simp -implicitDefEqProofs only [JI,qA,cS,cW,aJ,qU,D2,D5,D6,D4,D1,D7,reduceIte,reduceCtorEq,aS,E1,F2,hL, *]
    all_goals first
      | (simp; done)
      | exact congrArg AV.bool (mK (by simpa using hL)).symm
      | (simpa using mK (by simpa using hL))
      | skip
  | true =>
    have hl:a.length=b.length:=by simp at hL; omega
    refine aI bP ZA (by simp [JI]) fun hw _=>?_
    simp -implicitDefEqProofs only [JI,qA,cS,cW,aJ,qU,D2,D5,D6,D4,D1,D7,reduceIte,reduceCtorEq,hL,aS,E1,F2]
    refine xB (fun i:Nat=>[some (.slv 1 (a.map aS)),some (.slv 1 (b.map aS)),none,none,some (.bool false),some (.int .i64 i),none,none,none,none,none,none,none,none,none,none,none,none,none,none,none,none,none,none,none,none]) (fun i=>i≤a.length∧∀ j,j<i→a.getD j default=b.getD j default) (fun i=>a.length - i) 0 ?_ ?_ ?_ ?_ ?_
    rotate_right
    · intro i hJ
      simp only [dL,dK,all_nil]
      intros
      repeat' with_reducible first|refine aQ (fun h=>?_) (fun h=>?_)|refine bB (fun h=>?_) (fun h=>?_)|refine aF (fun h=>?_) (fun h=>?_)|refine aH (fun h=>?_) (fun h=>?_)|refine bJ ?_ ?_ ?_ ?_|refine aR ?_ ?_|refine bC ?_ ?_|refine bM ?_ ?_|refine eK (d:=default) ?_ ?_|refine xE (i+1) ?_ ?_ ?_ ?_ ?_|simp -implicitDefEqProofs only [JI,qA,cS,cW,aJ,qU,D2,D5,D6,D4,D1,D7,reduceIte,reduceCtorEq,aS,E1,F2,hL, *]
      all_goals first
        | (simp; done)
        | (refine congrArg AV.bool (wZ (i:=i) ?_ ?_).symm <;> grind)
        | (refine congrArg AV.bool (mL (i:=i) ?_ ?_ ?_).symm <;> grind)
        | exact mL (i:=i) (by simp only [decide_eq_false_iff_not] at h; omega) hl hJ.2
        | (refine ⟨by grind,xA ?_ ?_⟩ <;> grind)
        | grind [aY,bL,bI]
        | skip
    all_goals first
      | (simp; done)
      | (simp -implicitDefEqProofs only [JI,qA,cS,cW,aJ,qU,D2,D5,D6,D4,D1,D7,reduceIte,reduceCtorEq,hL,aS,E1,F2]; done)
      | skip

def JF:AFn:=⟨26,(.seq (.reg [o1 4 (.mv (.const (.bool false)))]) (.seq (.seq (.reg [o1 6 (.mv 0),o1 7 (.len 6),o1 8 (.mv 1),o1 9 (.len 8),o1 10 (.bin .neq 7 9)]) (.cond 10 (.seq (.reg [o1 4 (.mv (.const (.bool false)))]) .ret) .skip)) (.seq (.seq (.reg [o1 5 (.mv (ci 0))]) (.block 0 (.loop (.seq (.seq (.reg [o1 11 (.mv 5),o1 12 (.mv 0),o1 13 (.len 12),o1 14 (.bin .lss 11 13)]) (.cond 14 .skip (.exit 0))) (.seq (.block 1 (.seq (.regT [o1 17 (.mv 0),o1 18 (.mv 5),o1 19 (.iaddr 2 17 18),o1 20 (.ld 2 true 19),o1 21 (.mv 1),o1 22 (.mv 5),o1 23 (.iaddr 2 21 22),o1 24 (.ld 2 true 23),o1 25 (.eqs true [(.int .i64),(.int .i64)] 20 24)] [(2,6),(3,6),(2,7),(3,7)]) (.cond 25 (.seq (.reg [o1 4 (.mv (.const (.bool false)))]) .ret) .skip))) (.reg [o1 15 (.mv 5),o1 16 (.bin .add 15 (ci 1)),o1 5 (.mv 16)])))))) (.seq (.reg [o1 4 (.mv (.const (.bool true)))]) .ret)))),[(4,none)]⟩
theorem YL:xf D9 46=some JF:=by kernel_rfl
theorem Vt {a b:List Slot} (ha:a.length≤1000000000):cX D9 46 [.slv 2 (a.map cU),.slv 2 (b.map cU)] (.bool (decide (a=b)),[],[]):=by
  cases hL:decide ((a.length:Int)=(b.length:Int)) with
  | false =>
    refine aI bP YL (by simp [JF]) fun hw _=>?_
    repeat' with_reducible first|refine aQ (fun h=>?_) (fun h=>?_)|refine bB (fun h=>?_) (fun h=>?_)|refine aF (fun h=>?_) (fun h=>?_)|refine aH (fun h=>?_) (fun h=>?_)|refine bJ ?_ ?_ ?_ ?_|refine aR ?_ ?_|refine bC ?_ ?_|refine bM ?_ ?_|simp -implicitDefEqProofs only [JF,qA,cS,cW,aJ,qU,D2,D5,D6,D4,D1,D7,reduceIte,reduceCtorEq,len_encS,mG,Ab,E1,F2,hL, *]
    all_goals first
      | (simp; done)
      | exact congrArg AV.bool (mK (by simpa using hL)).symm
      | (simpa using mK (by simpa using hL))
      | skip
  | true =>
    have hl:a.length=b.length:=by simp at hL; omega
    refine aI bP YL (by simp [JF]) fun hw _=>?_
    simp -implicitDefEqProofs only [JF,qA,cS,cW,aJ,qU,D2,D5,D6,D4,D1,D7,reduceIte,reduceCtorEq,hL,len_encS,mG,Ab,E1,F2]
    refine xB (fun i:Nat=>[some (.slv 2 (a.map cU)),some (.slv 2 (b.map cU)),none,none,some (.bool false),some (.int .i64 i),none,none,none,none,none,none,none,none,none,none,none,none,none,none,none,none,none,none,none,none]) (fun i=>i≤a.length∧∀ j,j<i→a.getD j default=b.getD j default) (fun i=>a.length - i) 0 ?_ ?_ ?_ ?_ ?_
    rotate_right
    · intro i hJ
      simp only [dL,dK,all_nil]
      intros
      repeat' with_reducible first|refine aQ (fun h=>?_) (fun h=>?_)|refine bB (fun h=>?_) (fun h=>?_)|refine aF (fun h=>?_) (fun h=>?_)|refine aH (fun h=>?_) (fun h=>?_)|refine bJ ?_ ?_ ?_ ?_|refine aR ?_ ?_|refine bC ?_ ?_|refine bM ?_ ?_|refine eK (d:=default) ?_ ?_|refine xE (i+1) ?_ ?_ ?_ ?_ ?_|simp -implicitDefEqProofs only [JF,qA,cS,cW,aJ,qU,D2,D5,D6,D4,D1,D7,reduceIte,reduceCtorEq,len_encS,mG,Ab,E1,F2,hL, *]
      all_goals first
        | (simp; done)
        | (refine congrArg AV.bool (wZ (i:=i) ?_ ?_).symm <;> grind)
        | (refine congrArg AV.bool (mL (i:=i) ?_ ?_ ?_).symm <;> grind)
        | exact mL (i:=i) (by simp only [decide_eq_false_iff_not] at h; omega) hl hJ.2
        | (refine ⟨by grind,xA ?_ ?_⟩ <;> grind)
        | grind [aY,bL,bI]
        | skip
    all_goals first
      | (simp; done)
      | (simp -implicitDefEqProofs only [JF,qA,cS,cW,aJ,qU,D2,D5,D6,D4,D1,D7,reduceIte,reduceCtorEq,hL,len_encS,mG,Ab,E1,F2]; done)
      | skip

def JG:AFn:=⟨26,(.seq (.reg [o1 4 (.mv (.const (.bool false)))]) (.seq (.seq (.reg [o1 6 (.mv 0),o1 7 (.len 6),o1 8 (.mv 1),o1 9 (.len 8),o1 10 (.bin .neq 7 9)]) (.cond 10 (.seq (.reg [o1 4 (.mv (.const (.bool false)))]) .ret) .skip)) (.seq (.seq (.reg [o1 5 (.mv (ci 0))]) (.block 0 (.loop (.seq (.seq (.reg [o1 11 (.mv 5),o1 12 (.mv 0),o1 13 (.len 12),o1 14 (.bin .lss 11 13)]) (.cond 14 .skip (.exit 0))) (.seq (.block 1 (.seq (.regT [o1 17 (.mv 0),o1 18 (.mv 5),o1 19 (.iaddr 11 17 18),o1 20 (.ld 11 true 19),o1 21 (.mv 1),o1 22 (.mv 5),o1 23 (.iaddr 11 21 22),o1 24 (.ld 11 true 23),o1 25 (.eqs true [(.int .i64),(.int .i64),(.int .i64),(.int .i64),(.int .i64),(.int .i64),(.int .i64),(.int .i64),.bool,(.int .i64),(.int .i64)] 20 24)] [(2,6),(3,6),(2,7),(3,7)]) (.cond 25 (.seq (.reg [o1 4 (.mv (.const (.bool false)))]) .ret) .skip))) (.reg [o1 15 (.mv 5),o1 16 (.bin .add 15 (ci 1)),o1 5 (.mv 16)])))))) (.seq (.reg [o1 4 (.mv (.const (.bool true)))]) .ret)))),[(4,none)]⟩
theorem YM:xf D9 48=some JG:=by kernel_rfl
theorem Vv {a b:List Thread} (ha:a.length≤1000000000):cX D9 48 [.slv 11 (a.map bH),.slv 11 (b.map bH)] (.bool (decide (a=b)),[],[]):=by
  cases hL:decide ((a.length:Int)=(b.length:Int)) with
  | false =>
    refine aI bP YM (by simp [JG]) fun hw _=>?_
    repeat' with_reducible first|refine aQ (fun h=>?_) (fun h=>?_)|refine bB (fun h=>?_) (fun h=>?_)|refine aF (fun h=>?_) (fun h=>?_)|refine aH (fun h=>?_) (fun h=>?_)|refine bJ ?_ ?_ ?_ ?_|refine aR ?_ ?_|refine bC ?_ ?_|refine bM ?_ ?_|simp -implicitDefEqProofs only [JG,qA,cS,cW,aJ,qU,D2,D5,D6,D4,D1,D7,reduceIte,reduceCtorEq,len_encT,mH,nG,E1,F2,hL, *]
    all_goals first
      | (simp; done)
      | exact congrArg AV.bool (mK (by simpa using hL)).symm
      | (simpa using mK (by simpa using hL))
      | skip
  | true =>
    have hl:a.length=b.length:=by simp at hL; omega
    refine aI bP YM (by simp [JG]) fun hw _=>?_
    simp -implicitDefEqProofs only [JG,qA,cS,cW,aJ,qU,D2,D5,D6,D4,D1,D7,reduceIte,reduceCtorEq,hL,len_encT,mH,nG,E1,F2]
    refine xB (fun i:Nat=>[some (.slv 11 (a.map bH)),some (.slv 11 (b.map bH)),none,none,some (.bool false),some (.int .i64 i),none,none,none,none,none,none,none,none,none,none,none,none,none,none,none,none,none,none,none,none]) (fun i=>i≤a.length∧∀ j,j<i→a.getD j default=b.getD j default) (fun i=>a.length - i) 0 ?_ ?_ ?_ ?_ ?_
    rotate_right
    · intro i hJ
      simp only [dL,dK,all_nil]
      intros
      repeat' with_reducible first|refine aQ (fun h=>?_) (fun h=>?_)|refine bB (fun h=>?_) (fun h=>?_)|refine aF (fun h=>?_) (fun h=>?_)|refine aH (fun h=>?_) (fun h=>?_)|refine bJ ?_ ?_ ?_ ?_|refine aR ?_ ?_|refine bC ?_ ?_|refine bM ?_ ?_|refine eK (d:=default) ?_ ?_|refine xE (i+1) ?_ ?_ ?_ ?_ ?_|simp -implicitDefEqProofs only [JG,qA,cS,cW,aJ,qU,D2,D5,D6,D4,D1,D7,reduceIte,reduceCtorEq,len_encT,mH,nG,E1,F2,hL, *]
      all_goals first
        | (simp; done)
        | (refine congrArg AV.bool (wZ (i:=i) ?_ ?_).symm <;> grind)
        | (refine congrArg AV.bool (mL (i:=i) ?_ ?_ ?_).symm <;> grind)
        | exact mL (i:=i) (by simp only [decide_eq_false_iff_not] at h; omega) hl hJ.2
        | (refine ⟨by grind,xA ?_ ?_⟩ <;> grind)
        | grind [aY,bL,bI]
        | skip
    all_goals first
      | (simp; done)
      | (simp -implicitDefEqProofs only [JG,qA,cS,cW,aJ,qU,D2,D5,D6,D4,D1,D7,reduceIte,reduceCtorEq,hL,len_encT,mH,nG,E1,F2]; done)
      | skip

def JC:AFn:=⟨26,(.seq (.reg [o1 4 (.mv (.const (.bool false)))]) (.seq (.seq (.reg [o1 6 (.mv 0),o1 7 (.len 6),o1 8 (.mv 1),o1 9 (.len 8),o1 10 (.bin .neq 7 9)]) (.cond 10 (.seq (.reg [o1 4 (.mv (.const (.bool false)))]) .ret) .skip)) (.seq (.seq (.reg [o1 5 (.mv (ci 0))]) (.block 0 (.loop (.seq (.seq (.reg [o1 11 (.mv 5),o1 12 (.mv 0),o1 13 (.len 12),o1 14 (.bin .lss 11 13)]) (.cond 14 .skip (.exit 0))) (.seq (.block 1 (.seq (.regT [o1 17 (.mv 0),o1 18 (.mv 5),o1 19 (.iaddr 5 17 18),o1 20 (.ld 5 true 19),o1 21 (.mv 1),o1 22 (.mv 5),o1 23 (.iaddr 5 21 22),o1 24 (.ld 5 true 23),o1 25 (.eqs true [(.int .i64),(.int .i64),(.int .i64),(.int .i64),(.int .i64)] 20 24)] [(2,6),(3,6),(2,7),(3,7)]) (.cond 25 (.seq (.reg [o1 4 (.mv (.const (.bool false)))]) .ret) .skip))) (.reg [o1 15 (.mv 5),o1 16 (.bin .add 15 (ci 1)),o1 5 (.mv 16)])))))) (.seq (.reg [o1 4 (.mv (.const (.bool true)))]) .ret)))),[(4,none)]⟩
theorem YI:xf D9 31=some JC:=by kernel_rfl
theorem pJ {a b:List Entry} (ha:a.length≤1000000000):cX D9 31 [.slv 5 (a.map cO),.slv 5 (b.map cO)] (.bool (decide (a=b)),[],[]):=by
  cases hL:decide ((a.length:Int)=(b.length:Int)) with
  | false =>
    refine aI bP YI (by simp [JC]) fun hw _=>?_
    repeat' with_reducible first|refine aQ (fun h=>?_) (fun h=>?_)|refine bB (fun h=>?_) (fun h=>?_)|refine aF (fun h=>?_) (fun h=>?_)|refine aH (fun h=>?_) (fun h=>?_)|refine bJ ?_ ?_ ?_ ?_|refine aR ?_ ?_|refine bC ?_ ?_|refine bM ?_ ?_|simp -implicitDefEqProofs only [JC,qA,cS,cW,aJ,qU,D2,D5,D6,D4,D1,D7,reduceIte,reduceCtorEq,wX,uC,Aa,E1,F2,hL, *]
    all_goals first
      | (simp; done)
      | exact congrArg AV.bool (mK (by simpa using hL)).symm
      | (simpa using mK (by simpa using hL))
      | skip
  | true =>
    have hl:a.length=b.length:=by simp at hL; omega
    refine aI bP YI (by simp [JC]) fun hw _=>?_
    simp -implicitDefEqProofs only [JC,qA,cS,cW,aJ,qU,D2,D5,D6,D4,D1,D7,reduceIte,reduceCtorEq,hL,wX,uC,Aa,E1,F2]
    refine xB (fun i:Nat=>[some (.slv 5 (a.map cO)),some (.slv 5 (b.map cO)),none,none,some (.bool false),some (.int .i64 i),none,none,none,none,none,none,none,none,none,none,none,none,none,none,none,none,none,none,none,none]) (fun i=>i≤a.length∧∀ j,j<i→a.getD j default=b.getD j default) (fun i=>a.length - i) 0 ?_ ?_ ?_ ?_ ?_
    rotate_right
    · intro i hJ
      simp only [dL,dK,all_nil]
      intros
      repeat' with_reducible first|refine aQ (fun h=>?_) (fun h=>?_)|refine bB (fun h=>?_) (fun h=>?_)|refine aF (fun h=>?_) (fun h=>?_)|refine aH (fun h=>?_) (fun h=>?_)|refine bJ ?_ ?_ ?_ ?_|refine aR ?_ ?_|refine bC ?_ ?_|refine bM ?_ ?_|refine eK (d:=default) ?_ ?_|refine xE (i+1) ?_ ?_ ?_ ?_ ?_|simp -implicitDefEqProofs only [JC,qA,cS,cW,aJ,qU,D2,D5,D6,D4,D1,D7,reduceIte,reduceCtorEq,wX,uC,Aa,E1,F2,hL, *]
      all_goals first
        | (simp; done)
        | (refine congrArg AV.bool (wZ (i:=i) ?_ ?_).symm <;> grind)
        | (refine congrArg AV.bool (mL (i:=i) ?_ ?_ ?_).symm <;> grind)
        | exact mL (i:=i) (by simp only [decide_eq_false_iff_not] at h; omega) hl hJ.2
        | (refine ⟨by grind,xA ?_ ?_⟩ <;> grind)
        | grind [aY,bL,bI]
        | skip
    all_goals first
      | (simp; done)
      | (simp -implicitDefEqProofs only [JC,qA,cS,cW,aJ,qU,D2,D5,D6,D4,D1,D7,reduceIte,reduceCtorEq,hL,wX,uC,Aa,E1,F2]; done)
      | skip

end Go.Sak
