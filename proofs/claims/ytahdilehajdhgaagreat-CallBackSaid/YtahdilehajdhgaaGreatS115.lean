/- Part S115 of the proofs about the program: K223. Conditions: none. -/
import Derived.Test.YtahdilehajdhgaaGreatS111
import Derived.Test.YtahdilehajdhgaaGreatS100
import Derived.Test.YtahdilehajdhgaaGreatS04
import Derived.Test.YtahdilehajdhgaaGreatProg
import Derived.KernelRfl
namespace Go.Sak
open Go Go.RowKit Go.Proofs
set_option linter.unusedVariables false
set_option linter.unusedSimpArgs false
set_option maxRecDepth 10000
set_option maxHeartbeats 8000000
def F58:AFn:=⟨4,(.seq (.reg [o1 1 (.box 33 0),o1 2 (.mv (.const .fnnil))]) (.seq (.reg [o1 3 (.mkfn (.func 103) [] [1]),o1 2 (.mv 3)]) .ret)),[(2,none)]⟩
theorem x58:xf Tryz.prog 58=some F58:=by kernel_rfl
noncomputable def cdD (k:Nat):Code:=match Tryz.f21.body with
  | some (.seq c0 (.seq cA (.seq (.seq cB _) cP)))=>match k with
    | 0=>c0
    | 1=>cA
    | 2=>cB
    | _=>cP
  | _=>.skip
def acD0:ACode:=.reg [⟨some 1,.box 33 (.tmp 0),none,[]⟩,⟨some 2,.alloc 48 [.slnil],none,[]⟩]
def acD1:ACode:=.seq (.reg [⟨some 5,.ld 20 true (.tmp 1),none,[]⟩,⟨some 6,.call 18 [.tmp 5],none,[]⟩,⟨some 7,.not (.tmp 6),none,[]⟩]) (.cond (.tmp 7) (.seq (.reg [⟨none,.st 1 (.tmp 2) (.const .slnil),none,[]⟩]) .ret) .skip)
def acD2:ACode:=.reg [⟨some 8,.ld 20 true (.tmp 1),none,[]⟩,⟨some 9,.call 58 [.tmp 8],none,[]⟩]
theorem xcD0:xcode Tryz.prog 22 (cdD 0)=some acD0:=by kernel_rfl
theorem xcD1:xcode Tryz.prog 22 (cdD 1)=some acD1:=by kernel_rfl
theorem xcD2:xcode Tryz.prog 22 (cdD 2)=some acD2:=by kernel_rfl
def isK (e0:Ex) (E:List AV) (M:AM) (B:Nat):KX:=fun e env m b=>e=e0∧env=E∧m=M∧b=B
theorem fin_wts {s:State} {b:Nat}:FinS 1 [] (.fn (.func 103) [] [.ptr 1 0 0],[(1,some (.rows 33 20 [encZ s]))],[]) (.fn (.func 103) [] [.ptr 1 0 0]) [(1,.rows 33 20 [encZ s])] b :=
  fin_in (m2:=[(1,.rows 33 20 [encZ s])]) [] [(1,1)] (by simp [stOk]) rfl (by simp only [stM,nameT,lk,Blk.tr,trss,trs_pure _ _ (pure_encZ s),List.contains_nil,Bool.false_eq_true,if_false,Nat.lt_irrefl,if_true,Option.isSome_some,or_true,Option.getD_some]) (by simp) (by simp [AV.tr,trs,stT,nameT,lk])
theorem con58 {s:State}:Con Tryz.prog 58 [.agg (encZ s)] (.fn (.func 103) [] [.ptr 1 0 0],inlU [] [(1,.rows 33 20 [encZ s])],[]):=by
  refine mcb_of_vc mix x58 (by simp [F58]) fun hw _=>?_
  clear hw
  repeat' with_reducible first|refine gTn_of (fun h=>?_) (fun h=>?_)|refine gT_of (fun h=>?_) (fun h=>?_)|refine caseTn_of (fun h=>?_) (fun h=>?_)|refine caseT_of (fun h=>?_) (fun h=>?_)|refine fin_in [] [(1,1)] ?_ ?_ ?_ ?_ ?_|refine kv_ifn ?_ ?_|refine kv_if ?_ ?_|refine k_if ?_ ?_|refine IA ?_ ?_ ?_|refine L1 ?_ ?_|refine L2 ?_ ?_|refine L3 ?_ ?_ ?_ ?_|refine L4 ?_ ?_|refine L5 ?_ ?_ ?_ ?_ ?_|refine L6 ?_ ?_ ?_ ?_ ?_|simp -implicitDefEqProofs only [F58,qA,ld_0,ld_pv,st_0,splice,doEqs,qU,List.reduceReplicate,Nat.reduceAdd,Nat.reduceSub,Nat.reduceLeDiff,Nat.reduceEqDiff,Nat.reduceMul,reduceIte,reduceCtorEq,qI,Nat.reduceLT,Nat.reduceBEq,up_s,Int.toNat_natCast,encT,qZ, *]
  all_goals first
    | exact fin_wts
    | trace_state

theorem duV0 {s:State} (hb8:Bd s 100000000)  : vc Tryz.prog 1 acD0 (isK .normal [.agg (encZ s),.ptr 1 0 0,.ptr 17 0 0,.und,.und,.und,.und,.und,.und,.und,.und,.und,.und,.und,.und,.und,.und,.und,.und,.und,.und,.und] [(1,.rows 33 20 [encZ s]),(17,.rows 48 1 [[.slnil]])] 33) ([.agg (encZ s)] ++ List.replicate 21 .und) ([]) 1:=by
  repeat' with_reducible first|refine gTn_of (fun h=>?_) (fun h=>?_)|refine gT_of (fun h=>?_) (fun h=>?_)|refine caseTn_of (fun h=>?_) (fun h=>?_)|refine caseT_of (fun h=>?_) (fun h=>?_)|refine FN ?_ ?_ ?_ ?_ rfl ?_|refine kv_ifn ?_ ?_|refine kv_if ?_ ?_|refine k_if ?_ ?_|refine IA ?_ ?_ ?_|refine L1 ?_ ?_|refine L2 ?_ ?_|refine L3 ?_ ?_ ?_ ?_|refine L4 ?_ ?_|refine L5 ?_ ?_ ?_ ?_ ?_|refine L6 ?_ ?_ ?_ ?_ ?_|refine AC.p0 (con18s ?_) ?_ (by simp -implicitDefEqProofs only [qU,pure_encZ]; done) ?_ ?_|refine AC.n1 con58 ?_ (by simp -implicitDefEqProofs only [qU,pure_encZ]; done) ?_|simp -implicitDefEqProofs only [F58,qA,ld_0,ld_pv,st_0,splice,doEqs,qU,List.reduceReplicate,Nat.reduceAdd,Nat.reduceSub,Nat.reduceLeDiff,Nat.reduceEqDiff,Nat.reduceMul,reduceIte,reduceCtorEq,qI,Nat.reduceLT,Nat.reduceBEq,up_s,Int.toNat_natCast,encT,qZ,acD0,acD1,acD2,isK,up_p,List.replicate_succ,List.replicate_zero, *]
  all_goals first
    | exact hb8
    | exact ⟨rfl,rfl,rfl,rfl⟩
    | trace_state

theorem duVt {s:State} (hb8:Bd s 100000000) (hck:fabCheck s=true):vc Tryz.prog 1 acD1 (isK .normal [.agg (encZ s),.ptr 1 0 0,.ptr 17 0 0,.und,.und,.agg (encZ s),.bool true,.bool false,.und,.und,.und,.und,.und,.und,.und,.und,.und,.und,.und,.und,.und,.und] [(1,.rows 33 20 [encZ s]),(17,.rows 48 1 [[.slnil]])] 81) ([.agg (encZ s),.ptr 1 0 0,.ptr 17 0 0,.und,.und,.und,.und,.und,.und,.und,.und,.und,.und,.und,.und,.und,.und,.und,.und,.und,.und,.und]) ([(1,.rows 33 20 [encZ s]),(17,.rows 48 1 [[.slnil]])]) 33:=by
  repeat' with_reducible first|refine gTn_of (fun h=>?_) (fun h=>?_)|refine gT_of (fun h=>?_) (fun h=>?_)|refine caseTn_of (fun h=>?_) (fun h=>?_)|refine caseT_of (fun h=>?_) (fun h=>?_)|refine FN ?_ ?_ ?_ ?_ rfl ?_|refine kv_ifn ?_ ?_|refine kv_if ?_ ?_|refine k_if ?_ ?_|refine IA ?_ ?_ ?_|refine L1 ?_ ?_|refine L2 ?_ ?_|refine L3 ?_ ?_ ?_ ?_|refine L4 ?_ ?_|refine L5 ?_ ?_ ?_ ?_ ?_|refine L6 ?_ ?_ ?_ ?_ ?_|refine AC.p0 (con18s ?_) ?_ (by simp -implicitDefEqProofs only [qU,pure_encZ]; done) ?_ ?_|refine AC.n1 con58 ?_ (by simp -implicitDefEqProofs only [qU,pure_encZ]; done) ?_|simp -implicitDefEqProofs only [F58,qA,ld_0,ld_pv,st_0,splice,doEqs,qU,List.reduceReplicate,Nat.reduceAdd,Nat.reduceSub,Nat.reduceLeDiff,Nat.reduceEqDiff,Nat.reduceMul,reduceIte,reduceCtorEq,qI,Nat.reduceLT,Nat.reduceBEq,up_s,Int.toNat_natCast,encT,qZ,acD0,acD1,acD2,isK,up_p,hck, *]
  all_goals first
    | exact hb8
    | exact ⟨rfl,rfl,rfl,rfl⟩
    | trace_state

theorem duVf {s:State} (hb8:Bd s 100000000) (hck:fabCheck s=false):vc Tryz.prog 1 acD1 (isK .ret [.agg (encZ s),.ptr 1 0 0,.ptr 17 0 0,.und,.und,.agg (encZ s),.bool false,.bool true,.und,.und,.und,.und,.und,.und,.und,.und,.und,.und,.und,.und,.und,.und] [(1,.rows 33 20 [encZ s]),(17,.rows 48 1 [[.slnil]])] 97) ([.agg (encZ s),.ptr 1 0 0,.ptr 17 0 0,.und,.und,.und,.und,.und,.und,.und,.und,.und,.und,.und,.und,.und,.und,.und,.und,.und,.und,.und]) ([(1,.rows 33 20 [encZ s]),(17,.rows 48 1 [[.slnil]])]) 33:=by
  repeat' with_reducible first|refine gTn_of (fun h=>?_) (fun h=>?_)|refine gT_of (fun h=>?_) (fun h=>?_)|refine caseTn_of (fun h=>?_) (fun h=>?_)|refine caseT_of (fun h=>?_) (fun h=>?_)|refine FN ?_ ?_ ?_ ?_ rfl ?_|refine kv_ifn ?_ ?_|refine kv_if ?_ ?_|refine k_if ?_ ?_|refine IA ?_ ?_ ?_|refine L1 ?_ ?_|refine L2 ?_ ?_|refine L3 ?_ ?_ ?_ ?_|refine L4 ?_ ?_|refine L5 ?_ ?_ ?_ ?_ ?_|refine L6 ?_ ?_ ?_ ?_ ?_|refine AC.p0 (con18s ?_) ?_ (by simp -implicitDefEqProofs only [qU,pure_encZ]; done) ?_ ?_|refine AC.n1 con58 ?_ (by simp -implicitDefEqProofs only [qU,pure_encZ]; done) ?_|simp -implicitDefEqProofs only [F58,qA,ld_0,ld_pv,st_0,splice,doEqs,qU,List.reduceReplicate,Nat.reduceAdd,Nat.reduceSub,Nat.reduceLeDiff,Nat.reduceEqDiff,Nat.reduceMul,reduceIte,reduceCtorEq,qI,Nat.reduceLT,Nat.reduceBEq,up_s,Int.toNat_natCast,encT,qZ,acD0,acD1,acD2,isK,up_p,hck, *]
  all_goals first
    | exact hb8
    | exact ⟨rfl,rfl,rfl,rfl⟩
    | trace_state

theorem duV2 {s:State} (hb8:Bd s 100000000)  : vc Tryz.prog 1 acD2 (isK .normal [.agg (encZ s),.ptr 1 0 0,.ptr 17 0 0,.und,.und,.agg (encZ s),.bool true,.bool false,.agg (encZ s),.fn (.func 103) [] [.ptr 97 0 0],.und,.und,.und,.und,.und,.und,.und,.und,.und,.und,.und,.und] [(1,.rows 33 20 [encZ s]),(17,.rows 48 1 [[.slnil]]),(97,.rows 33 20 [encZ s])] 113) ([.agg (encZ s),.ptr 1 0 0,.ptr 17 0 0,.und,.und,.agg (encZ s),.bool true,.bool false,.und,.und,.und,.und,.und,.und,.und,.und,.und,.und,.und,.und,.und,.und]) ([(1,.rows 33 20 [encZ s]),(17,.rows 48 1 [[.slnil]])]) 81:=by
  repeat' with_reducible first|refine gTn_of (fun h=>?_) (fun h=>?_)|refine gT_of (fun h=>?_) (fun h=>?_)|refine caseTn_of (fun h=>?_) (fun h=>?_)|refine caseT_of (fun h=>?_) (fun h=>?_)|refine FN ?_ ?_ ?_ ?_ rfl ?_|refine kv_ifn ?_ ?_|refine kv_if ?_ ?_|refine k_if ?_ ?_|refine IA ?_ ?_ ?_|refine L1 ?_ ?_|refine L2 ?_ ?_|refine L3 ?_ ?_ ?_ ?_|refine L4 ?_ ?_|refine L5 ?_ ?_ ?_ ?_ ?_|refine L6 ?_ ?_ ?_ ?_ ?_|refine AC.p0 (con18s ?_) ?_ (by simp -implicitDefEqProofs only [qU,pure_encZ]; done) ?_ ?_|refine AC.n1 con58 ?_ (by simp -implicitDefEqProofs only [qU,pure_encZ]; done) ?_|simp -implicitDefEqProofs only [F58,qA,ld_0,ld_pv,st_0,splice,doEqs,qU,List.reduceReplicate,Nat.reduceAdd,Nat.reduceSub,Nat.reduceLeDiff,Nat.reduceEqDiff,Nat.reduceMul,reduceIte,reduceCtorEq,qI,Nat.reduceLT,Nat.reduceBEq,up_s,Int.toNat_natCast,encT,qZ,acD0,acD1,acD2,isK,up_p, *]
  all_goals first
    | exact hb8
    | exact ⟨rfl,rfl,rfl,rfl⟩
    | trace_state

end Go.Sak
