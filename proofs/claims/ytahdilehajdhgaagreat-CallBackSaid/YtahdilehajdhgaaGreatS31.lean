/- Part S31 of the proofs about the program: K31. Conditions: none. -/
import Derived.Test.YtahdilehajdhgaaGreatS13
import Derived.Test.YtahdilehajdhgaaGreatS03
import Derived.Test.YtahdilehajdhgaaGreatS04
import Derived.Test.YtahdilehajdhgaaGreatProg
import Derived.KernelRfl
namespace Go.Sak
open Go Go.RowKit Go.Proofs
set_option linter.unusedVariables false
set_option linter.unusedSimpArgs false
set_option maxRecDepth 10000
set_option maxHeartbeats 8000000
theorem ceq_T (x y:Thread):cellsEq (encT x) (encT y)=some (decide (x=y)):=by
  obtain ⟨x1,x2,x3,x4,x5,x6,x7,x8,x9,x10,x11⟩:=x
  obtain ⟨y1,y2,y3,y4,y5,y6,y7,y8,y9,y10,y11⟩:=y
  simp [encT,cellsEq,Bool.decide_and]
  cases x9 <;> cases y9 <;> simp
theorem ceq_E (x y:Entry):cellsEq (encE x) (encE y)=some (decide (x=y)):=by
  obtain ⟨x1,x2,x3,x4,x5⟩:=x
  obtain ⟨y1,y2,y3,y4,y5⟩:=y
  simp [encE,cellsEq,Bool.decide_and]
theorem ceq_S (x y:Slot):cellsEq (encS x) (encS y)=some (decide (x=y)):=by
  obtain ⟨x1,x2⟩:=x
  obtain ⟨y1,y2⟩:=y
  simp [encS,cellsEq,Bool.decide_and]
theorem doe_of {neg:Bool} {ks:List CK} {xs ys:List AV} {r:Bool} (hx:kindOk ks xs=true) (hy:kindOk ks ys=true) (h:cellsEq xs ys=some r):doEqs neg ks (.agg xs) (.agg ys)=some (.bool (neg? neg r)):=by
  simp only [doEqs,hx,hy,h]; rfl
theorem cells_T (neg:Bool) (x y:Thread):doEqs neg [.int .i64,.int .i64,.int .i64,.int .i64,.int .i64,.int .i64,.int .i64,.int .i64,.bool,.int .i64,.int .i64] (.agg (encT x)) (.agg (encT y))=some (.bool (neg? neg (decide (x=y)))):=doe_of rfl rfl (ceq_T x y)
theorem cells_E (neg:Bool) (x y:Entry):doEqs neg [.int .i64,.int .i64,.int .i64,.int .i64,.int .i64] (.agg (encE x)) (.agg (encE y))=some (.bool (neg? neg (decide (x=y)))):=doe_of rfl rfl (ceq_E x y)
theorem cells_S (neg:Bool) (x y:Slot):doEqs neg [.int .i64,.int .i64] (.agg (encS x)) (.agg (encS y))=some (.bool (neg? neg (decide (x=y)))):=doe_of rfl rfl (ceq_S x y)
theorem lists_f {α:Type} [DecidableEq α] [Inhabited α] {a b:List α} {i:Nat} (hi:i<a.length) (h:¬ a.getD i default=b.getD i default):decide (a=b)=false:=by
  simp; intro e; subst e; exact h rfl
theorem lists_n {α:Type} [DecidableEq α] {a b:List α} (h:¬ (a.length:Int)=(b.length:Int)):decide (a=b)=false:=by
  simp; intro e; subst e; exact h rfl
theorem lists_t {α:Type} [DecidableEq α] [Inhabited α] {a b:List α} {i:Nat} (hi:¬ (i:Int)<(a.length:Int)) (hl:a.length=b.length) (h:∀ j,j<i→a.getD j default=b.getD j default):decide (a=b)=true:=by
  simp
  refine List.ext_getElem hl fun j h1 h2=>?_
  have:=h j (by omega)
  simpa [List.getD_eq_getElem?_getD,h1,h2] using this
theorem lists_s {α:Type} [Inhabited α] {a b:List α} {i:Nat} (h0:∀ j,j<i→a.getD j default=b.getD j default) (h:a.getD i default=b.getD i default):∀ j,j<i+1→a.getD j default=b.getD j default:=fun j hj=>by
  by_cases e:j=i
  · subst e; exact h
  · exact h0 j (by omega)
def F19:AFn:=⟨26,(.seq (.reg [o1 4 (.mv (.const (.bool false)))]) (.seq (.seq (.reg [o1 6 (.mv 0),o1 7 (.len 6),o1 8 (.mv 1),o1 9 (.len 8),o1 10 (.bin .neq 7 9)]) (.cond 10 (.seq (.reg [o1 4 (.mv (.const (.bool false)))]) .ret) .skip)) (.seq (.seq (.reg [o1 5 (.mv (ci 0))]) (.block 0 (.loop (.seq (.seq (.reg [o1 11 (.mv 5),o1 12 (.mv 0),o1 13 (.len 12),o1 14 (.bin .lss 11 13)]) (.cond 14 .skip (.exit 0))) (.seq (.block 1 (.seq (.regT [o1 17 (.mv 0),o1 18 (.mv 5),o1 19 (.iaddr 1 17 18),o1 20 (.ld 1 false 19),o1 21 (.mv 1),o1 22 (.mv 5),o1 23 (.iaddr 1 21 22),o1 24 (.ld 1 false 23),o1 25 (.bin .neq 20 24)] [(2,6),(3,6),(2,7),(3,7)]) (.cond 25 (.seq (.reg [o1 4 (.mv (.const (.bool false)))]) .ret) .skip))) (.reg [o1 15 (.mv 5),o1 16 (.bin .add 15 (ci 1)),o1 5 (.mv 16)])))))) (.seq (.reg [o1 4 (.mv (.const (.bool true)))]) .ret)))),[(4,none)]⟩
theorem x19:xf Tryz.prog 19=some F19:=by kernel_rfl
theorem con19 {a b:List Int} (ha:a.length≤1000000000):Con Tryz.prog 19 [.slv 1 (a.map encI),.slv 1 (b.map encI)] (.bool (decide (a=b)),[],[]):=by
  cases hL:decide ((a.length:Int)=(b.length:Int)) with
  | false =>
    refine mcb_of_vc mix x19 (by simp [F19]) fun hw _=>?_
    repeat' with_reducible first|refine gTn_of (fun h=>?_) (fun h=>?_)|refine gT_of (fun h=>?_) (fun h=>?_)|refine caseTn_of (fun h=>?_) (fun h=>?_)|refine caseT_of (fun h=>?_) (fun h=>?_)|refine fin_pure ?_ ?_ ?_ ?_|refine kv_ifn ?_ ?_|refine kv_if ?_ ?_|refine k_if ?_ ?_|simp -implicitDefEqProofs only [F19,qA,doLd,doSt,splice,qU,List.reduceReplicate,Nat.reduceAdd,Nat.reduceSub,Nat.reduceLeDiff,Nat.reduceEqDiff,Nat.reduceMul,reduceIte,reduceCtorEq,encI,Int.toNat_natCast,Int.natCast_zero,hL, *]
    all_goals first
      | (simp; done)
      | exact congrArg AV.bool (lists_n (by simpa using hL)).symm
      | (simpa using lists_n (by simpa using hL))
      | trace_state
  | true =>
    have hl:a.length=b.length:=by simp at hL; omega
    refine mcb_of_vc mix x19 (by simp [F19]) fun hw _=>?_
    simp -implicitDefEqProofs only [F19,qA,doLd,doSt,splice,qU,List.reduceReplicate,Nat.reduceAdd,Nat.reduceSub,Nat.reduceLeDiff,Nat.reduceEqDiff,Nat.reduceMul,reduceIte,reduceCtorEq,hL,encI,Int.toNat_natCast,Int.natCast_zero]
    refine ls_of (fun i:Nat=>[some (.slv 1 (a.map encI)),some (.slv 1 (b.map encI)),none,none,some (.bool false),some (.int .i64 i),none,none,none,none,none,none,none,none,none,none,none,none,none,none,none,none,none,none,none,none]) (fun i=>i≤a.length∧∀ j,j<i→a.getD j default=b.getD j default) (fun i=>a.length - i) 0 ?_ ?_ ?_ ?_ ?_
    rotate_right
    · intro i hJ
      simp only [all_some,all_none,all_nil]
      intros
      repeat' with_reducible first|refine gTn_of (fun h=>?_) (fun h=>?_)|refine gT_of (fun h=>?_) (fun h=>?_)|refine caseTn_of (fun h=>?_) (fun h=>?_)|refine caseT_of (fun h=>?_) (fun h=>?_)|refine fin_pure ?_ ?_ ?_ ?_|refine kv_ifn ?_ ?_|refine kv_if ?_ ?_|refine k_if ?_ ?_|refine ia_of (d:=default) ?_ ?_|refine rs_of (i+1) ?_ ?_ ?_ ?_ ?_|simp -implicitDefEqProofs only [F19,qA,doLd,doSt,splice,qU,List.reduceReplicate,Nat.reduceAdd,Nat.reduceSub,Nat.reduceLeDiff,Nat.reduceEqDiff,Nat.reduceMul,reduceIte,reduceCtorEq,encI,Int.toNat_natCast,Int.natCast_zero,hL, *]
      all_goals first
        | (simp; done)
        | (refine congrArg AV.bool (lists_f (i:=i) ?_ ?_).symm <;> grind)
        | (refine congrArg AV.bool (lists_t (i:=i) ?_ ?_ ?_).symm <;> grind)
        | exact lists_t (i:=i) (by simp only [decide_eq_false_iff_not] at h; omega) hl hJ.2
        | (refine ⟨by grind,lists_s ?_ ?_⟩ <;> grind)
        | grind [inR_i64,wrap64,maxLen_eq]
        | trace_state
    all_goals first
      | (simp; done)
      | (simp -implicitDefEqProofs only [F19,qA,doLd,doSt,splice,qU,List.reduceReplicate,Nat.reduceAdd,Nat.reduceSub,Nat.reduceLeDiff,Nat.reduceEqDiff,Nat.reduceMul,reduceIte,reduceCtorEq,hL,encI,Int.toNat_natCast,Int.natCast_zero]; done)
      | trace_state

def F46:AFn:=⟨26,(.seq (.reg [o1 4 (.mv (.const (.bool false)))]) (.seq (.seq (.reg [o1 6 (.mv 0),o1 7 (.len 6),o1 8 (.mv 1),o1 9 (.len 8),o1 10 (.bin .neq 7 9)]) (.cond 10 (.seq (.reg [o1 4 (.mv (.const (.bool false)))]) .ret) .skip)) (.seq (.seq (.reg [o1 5 (.mv (ci 0))]) (.block 0 (.loop (.seq (.seq (.reg [o1 11 (.mv 5),o1 12 (.mv 0),o1 13 (.len 12),o1 14 (.bin .lss 11 13)]) (.cond 14 .skip (.exit 0))) (.seq (.block 1 (.seq (.regT [o1 17 (.mv 0),o1 18 (.mv 5),o1 19 (.iaddr 2 17 18),o1 20 (.ld 2 true 19),o1 21 (.mv 1),o1 22 (.mv 5),o1 23 (.iaddr 2 21 22),o1 24 (.ld 2 true 23),o1 25 (.eqs true [(.int .i64),(.int .i64)] 20 24)] [(2,6),(3,6),(2,7),(3,7)]) (.cond 25 (.seq (.reg [o1 4 (.mv (.const (.bool false)))]) .ret) .skip))) (.reg [o1 15 (.mv 5),o1 16 (.bin .add 15 (ci 1)),o1 5 (.mv 16)])))))) (.seq (.reg [o1 4 (.mv (.const (.bool true)))]) .ret)))),[(4,none)]⟩
theorem x46:xf Tryz.prog 46=some F46:=by kernel_rfl
theorem con46 {a b:List Slot} (ha:a.length≤1000000000):Con Tryz.prog 46 [.slv 2 (a.map encS),.slv 2 (b.map encS)] (.bool (decide (a=b)),[],[]):=by
  cases hL:decide ((a.length:Int)=(b.length:Int)) with
  | false =>
    refine mcb_of_vc mix x46 (by simp [F46]) fun hw _=>?_
    repeat' with_reducible first|refine gTn_of (fun h=>?_) (fun h=>?_)|refine gT_of (fun h=>?_) (fun h=>?_)|refine caseTn_of (fun h=>?_) (fun h=>?_)|refine caseT_of (fun h=>?_) (fun h=>?_)|refine fin_pure ?_ ?_ ?_ ?_|refine kv_ifn ?_ ?_|refine kv_if ?_ ?_|refine k_if ?_ ?_|simp -implicitDefEqProofs only [F46,qA,doLd,doSt,splice,qU,List.reduceReplicate,Nat.reduceAdd,Nat.reduceSub,Nat.reduceLeDiff,Nat.reduceEqDiff,Nat.reduceMul,reduceIte,reduceCtorEq,len_encS,take_encS,cells_S,Int.toNat_natCast,Int.natCast_zero,hL, *]
    all_goals first
      | (simp; done)
      | exact congrArg AV.bool (lists_n (by simpa using hL)).symm
      | (simpa using lists_n (by simpa using hL))
      | trace_state
  | true =>
    have hl:a.length=b.length:=by simp at hL; omega
    refine mcb_of_vc mix x46 (by simp [F46]) fun hw _=>?_
    simp -implicitDefEqProofs only [F46,qA,doLd,doSt,splice,qU,List.reduceReplicate,Nat.reduceAdd,Nat.reduceSub,Nat.reduceLeDiff,Nat.reduceEqDiff,Nat.reduceMul,reduceIte,reduceCtorEq,hL,len_encS,take_encS,cells_S,Int.toNat_natCast,Int.natCast_zero]
    refine ls_of (fun i:Nat=>[some (.slv 2 (a.map encS)),some (.slv 2 (b.map encS)),none,none,some (.bool false),some (.int .i64 i),none,none,none,none,none,none,none,none,none,none,none,none,none,none,none,none,none,none,none,none]) (fun i=>i≤a.length∧∀ j,j<i→a.getD j default=b.getD j default) (fun i=>a.length - i) 0 ?_ ?_ ?_ ?_ ?_
    rotate_right
    · intro i hJ
      simp only [all_some,all_none,all_nil]
      intros
      repeat' with_reducible first|refine gTn_of (fun h=>?_) (fun h=>?_)|refine gT_of (fun h=>?_) (fun h=>?_)|refine caseTn_of (fun h=>?_) (fun h=>?_)|refine caseT_of (fun h=>?_) (fun h=>?_)|refine fin_pure ?_ ?_ ?_ ?_|refine kv_ifn ?_ ?_|refine kv_if ?_ ?_|refine k_if ?_ ?_|refine ia_of (d:=default) ?_ ?_|refine rs_of (i+1) ?_ ?_ ?_ ?_ ?_|simp -implicitDefEqProofs only [F46,qA,doLd,doSt,splice,qU,List.reduceReplicate,Nat.reduceAdd,Nat.reduceSub,Nat.reduceLeDiff,Nat.reduceEqDiff,Nat.reduceMul,reduceIte,reduceCtorEq,len_encS,take_encS,cells_S,Int.toNat_natCast,Int.natCast_zero,hL, *]
      all_goals first
        | (simp; done)
        | (refine congrArg AV.bool (lists_f (i:=i) ?_ ?_).symm <;> grind)
        | (refine congrArg AV.bool (lists_t (i:=i) ?_ ?_ ?_).symm <;> grind)
        | exact lists_t (i:=i) (by simp only [decide_eq_false_iff_not] at h; omega) hl hJ.2
        | (refine ⟨by grind,lists_s ?_ ?_⟩ <;> grind)
        | grind [inR_i64,wrap64,maxLen_eq]
        | trace_state
    all_goals first
      | (simp; done)
      | (simp -implicitDefEqProofs only [F46,qA,doLd,doSt,splice,qU,List.reduceReplicate,Nat.reduceAdd,Nat.reduceSub,Nat.reduceLeDiff,Nat.reduceEqDiff,Nat.reduceMul,reduceIte,reduceCtorEq,hL,len_encS,take_encS,cells_S,Int.toNat_natCast,Int.natCast_zero]; done)
      | trace_state

def F48:AFn:=⟨26,(.seq (.reg [o1 4 (.mv (.const (.bool false)))]) (.seq (.seq (.reg [o1 6 (.mv 0),o1 7 (.len 6),o1 8 (.mv 1),o1 9 (.len 8),o1 10 (.bin .neq 7 9)]) (.cond 10 (.seq (.reg [o1 4 (.mv (.const (.bool false)))]) .ret) .skip)) (.seq (.seq (.reg [o1 5 (.mv (ci 0))]) (.block 0 (.loop (.seq (.seq (.reg [o1 11 (.mv 5),o1 12 (.mv 0),o1 13 (.len 12),o1 14 (.bin .lss 11 13)]) (.cond 14 .skip (.exit 0))) (.seq (.block 1 (.seq (.regT [o1 17 (.mv 0),o1 18 (.mv 5),o1 19 (.iaddr 11 17 18),o1 20 (.ld 11 true 19),o1 21 (.mv 1),o1 22 (.mv 5),o1 23 (.iaddr 11 21 22),o1 24 (.ld 11 true 23),o1 25 (.eqs true [(.int .i64),(.int .i64),(.int .i64),(.int .i64),(.int .i64),(.int .i64),(.int .i64),(.int .i64),.bool,(.int .i64),(.int .i64)] 20 24)] [(2,6),(3,6),(2,7),(3,7)]) (.cond 25 (.seq (.reg [o1 4 (.mv (.const (.bool false)))]) .ret) .skip))) (.reg [o1 15 (.mv 5),o1 16 (.bin .add 15 (ci 1)),o1 5 (.mv 16)])))))) (.seq (.reg [o1 4 (.mv (.const (.bool true)))]) .ret)))),[(4,none)]⟩
theorem x48:xf Tryz.prog 48=some F48:=by kernel_rfl
theorem con48 {a b:List Thread} (ha:a.length≤1000000000):Con Tryz.prog 48 [.slv 11 (a.map encT),.slv 11 (b.map encT)] (.bool (decide (a=b)),[],[]):=by
  cases hL:decide ((a.length:Int)=(b.length:Int)) with
  | false =>
    refine mcb_of_vc mix x48 (by simp [F48]) fun hw _=>?_
    repeat' with_reducible first|refine gTn_of (fun h=>?_) (fun h=>?_)|refine gT_of (fun h=>?_) (fun h=>?_)|refine caseTn_of (fun h=>?_) (fun h=>?_)|refine caseT_of (fun h=>?_) (fun h=>?_)|refine fin_pure ?_ ?_ ?_ ?_|refine kv_ifn ?_ ?_|refine kv_if ?_ ?_|refine k_if ?_ ?_|simp -implicitDefEqProofs only [F48,qA,doLd,doSt,splice,qU,List.reduceReplicate,Nat.reduceAdd,Nat.reduceSub,Nat.reduceLeDiff,Nat.reduceEqDiff,Nat.reduceMul,reduceIte,reduceCtorEq,len_encT,take_encT,cells_T,Int.toNat_natCast,Int.natCast_zero,hL, *]
    all_goals first
      | (simp; done)
      | exact congrArg AV.bool (lists_n (by simpa using hL)).symm
      | (simpa using lists_n (by simpa using hL))
      | trace_state
  | true =>
    have hl:a.length=b.length:=by simp at hL; omega
    refine mcb_of_vc mix x48 (by simp [F48]) fun hw _=>?_
    simp -implicitDefEqProofs only [F48,qA,doLd,doSt,splice,qU,List.reduceReplicate,Nat.reduceAdd,Nat.reduceSub,Nat.reduceLeDiff,Nat.reduceEqDiff,Nat.reduceMul,reduceIte,reduceCtorEq,hL,len_encT,take_encT,cells_T,Int.toNat_natCast,Int.natCast_zero]
    refine ls_of (fun i:Nat=>[some (.slv 11 (a.map encT)),some (.slv 11 (b.map encT)),none,none,some (.bool false),some (.int .i64 i),none,none,none,none,none,none,none,none,none,none,none,none,none,none,none,none,none,none,none,none]) (fun i=>i≤a.length∧∀ j,j<i→a.getD j default=b.getD j default) (fun i=>a.length - i) 0 ?_ ?_ ?_ ?_ ?_
    rotate_right
    · intro i hJ
      simp only [all_some,all_none,all_nil]
      intros
      repeat' with_reducible first|refine gTn_of (fun h=>?_) (fun h=>?_)|refine gT_of (fun h=>?_) (fun h=>?_)|refine caseTn_of (fun h=>?_) (fun h=>?_)|refine caseT_of (fun h=>?_) (fun h=>?_)|refine fin_pure ?_ ?_ ?_ ?_|refine kv_ifn ?_ ?_|refine kv_if ?_ ?_|refine k_if ?_ ?_|refine ia_of (d:=default) ?_ ?_|refine rs_of (i+1) ?_ ?_ ?_ ?_ ?_|simp -implicitDefEqProofs only [F48,qA,doLd,doSt,splice,qU,List.reduceReplicate,Nat.reduceAdd,Nat.reduceSub,Nat.reduceLeDiff,Nat.reduceEqDiff,Nat.reduceMul,reduceIte,reduceCtorEq,len_encT,take_encT,cells_T,Int.toNat_natCast,Int.natCast_zero,hL, *]
      all_goals first
        | (simp; done)
        | (refine congrArg AV.bool (lists_f (i:=i) ?_ ?_).symm <;> grind)
        | (refine congrArg AV.bool (lists_t (i:=i) ?_ ?_ ?_).symm <;> grind)
        | exact lists_t (i:=i) (by simp only [decide_eq_false_iff_not] at h; omega) hl hJ.2
        | (refine ⟨by grind,lists_s ?_ ?_⟩ <;> grind)
        | grind [inR_i64,wrap64,maxLen_eq]
        | trace_state
    all_goals first
      | (simp; done)
      | (simp -implicitDefEqProofs only [F48,qA,doLd,doSt,splice,qU,List.reduceReplicate,Nat.reduceAdd,Nat.reduceSub,Nat.reduceLeDiff,Nat.reduceEqDiff,Nat.reduceMul,reduceIte,reduceCtorEq,hL,len_encT,take_encT,cells_T,Int.toNat_natCast,Int.natCast_zero]; done)
      | trace_state

def F31:AFn:=⟨26,(.seq (.reg [o1 4 (.mv (.const (.bool false)))]) (.seq (.seq (.reg [o1 6 (.mv 0),o1 7 (.len 6),o1 8 (.mv 1),o1 9 (.len 8),o1 10 (.bin .neq 7 9)]) (.cond 10 (.seq (.reg [o1 4 (.mv (.const (.bool false)))]) .ret) .skip)) (.seq (.seq (.reg [o1 5 (.mv (ci 0))]) (.block 0 (.loop (.seq (.seq (.reg [o1 11 (.mv 5),o1 12 (.mv 0),o1 13 (.len 12),o1 14 (.bin .lss 11 13)]) (.cond 14 .skip (.exit 0))) (.seq (.block 1 (.seq (.regT [o1 17 (.mv 0),o1 18 (.mv 5),o1 19 (.iaddr 5 17 18),o1 20 (.ld 5 true 19),o1 21 (.mv 1),o1 22 (.mv 5),o1 23 (.iaddr 5 21 22),o1 24 (.ld 5 true 23),o1 25 (.eqs true [(.int .i64),(.int .i64),(.int .i64),(.int .i64),(.int .i64)] 20 24)] [(2,6),(3,6),(2,7),(3,7)]) (.cond 25 (.seq (.reg [o1 4 (.mv (.const (.bool false)))]) .ret) .skip))) (.reg [o1 15 (.mv 5),o1 16 (.bin .add 15 (ci 1)),o1 5 (.mv 16)])))))) (.seq (.reg [o1 4 (.mv (.const (.bool true)))]) .ret)))),[(4,none)]⟩
theorem x31:xf Tryz.prog 31=some F31:=by kernel_rfl
theorem con31 {a b:List Entry} (ha:a.length≤1000000000):Con Tryz.prog 31 [.slv 5 (a.map encE),.slv 5 (b.map encE)] (.bool (decide (a=b)),[],[]):=by
  cases hL:decide ((a.length:Int)=(b.length:Int)) with
  | false =>
    refine mcb_of_vc mix x31 (by simp [F31]) fun hw _=>?_
    repeat' with_reducible first|refine gTn_of (fun h=>?_) (fun h=>?_)|refine gT_of (fun h=>?_) (fun h=>?_)|refine caseTn_of (fun h=>?_) (fun h=>?_)|refine caseT_of (fun h=>?_) (fun h=>?_)|refine fin_pure ?_ ?_ ?_ ?_|refine kv_ifn ?_ ?_|refine kv_if ?_ ?_|refine k_if ?_ ?_|simp -implicitDefEqProofs only [F31,qA,doLd,doSt,splice,qU,List.reduceReplicate,Nat.reduceAdd,Nat.reduceSub,Nat.reduceLeDiff,Nat.reduceEqDiff,Nat.reduceMul,reduceIte,reduceCtorEq,len_encE,take_encE,cells_E,Int.toNat_natCast,Int.natCast_zero,hL, *]
    all_goals first
      | (simp; done)
      | exact congrArg AV.bool (lists_n (by simpa using hL)).symm
      | (simpa using lists_n (by simpa using hL))
      | trace_state
  | true =>
    have hl:a.length=b.length:=by simp at hL; omega
    refine mcb_of_vc mix x31 (by simp [F31]) fun hw _=>?_
    simp -implicitDefEqProofs only [F31,qA,doLd,doSt,splice,qU,List.reduceReplicate,Nat.reduceAdd,Nat.reduceSub,Nat.reduceLeDiff,Nat.reduceEqDiff,Nat.reduceMul,reduceIte,reduceCtorEq,hL,len_encE,take_encE,cells_E,Int.toNat_natCast,Int.natCast_zero]
    refine ls_of (fun i:Nat=>[some (.slv 5 (a.map encE)),some (.slv 5 (b.map encE)),none,none,some (.bool false),some (.int .i64 i),none,none,none,none,none,none,none,none,none,none,none,none,none,none,none,none,none,none,none,none]) (fun i=>i≤a.length∧∀ j,j<i→a.getD j default=b.getD j default) (fun i=>a.length - i) 0 ?_ ?_ ?_ ?_ ?_
    rotate_right
    · intro i hJ
      simp only [all_some,all_none,all_nil]
      intros
      repeat' with_reducible first|refine gTn_of (fun h=>?_) (fun h=>?_)|refine gT_of (fun h=>?_) (fun h=>?_)|refine caseTn_of (fun h=>?_) (fun h=>?_)|refine caseT_of (fun h=>?_) (fun h=>?_)|refine fin_pure ?_ ?_ ?_ ?_|refine kv_ifn ?_ ?_|refine kv_if ?_ ?_|refine k_if ?_ ?_|refine ia_of (d:=default) ?_ ?_|refine rs_of (i+1) ?_ ?_ ?_ ?_ ?_|simp -implicitDefEqProofs only [F31,qA,doLd,doSt,splice,qU,List.reduceReplicate,Nat.reduceAdd,Nat.reduceSub,Nat.reduceLeDiff,Nat.reduceEqDiff,Nat.reduceMul,reduceIte,reduceCtorEq,len_encE,take_encE,cells_E,Int.toNat_natCast,Int.natCast_zero,hL, *]
      all_goals first
        | (simp; done)
        | (refine congrArg AV.bool (lists_f (i:=i) ?_ ?_).symm <;> grind)
        | (refine congrArg AV.bool (lists_t (i:=i) ?_ ?_ ?_).symm <;> grind)
        | exact lists_t (i:=i) (by simp only [decide_eq_false_iff_not] at h; omega) hl hJ.2
        | (refine ⟨by grind,lists_s ?_ ?_⟩ <;> grind)
        | grind [inR_i64,wrap64,maxLen_eq]
        | trace_state
    all_goals first
      | (simp; done)
      | (simp -implicitDefEqProofs only [F31,qA,doLd,doSt,splice,qU,List.reduceReplicate,Nat.reduceAdd,Nat.reduceSub,Nat.reduceLeDiff,Nat.reduceEqDiff,Nat.reduceMul,reduceIte,reduceCtorEq,hL,len_encE,take_encE,cells_E,Int.toNat_natCast,Int.natCast_zero]; done)
      | trace_state

end Go.Sak
