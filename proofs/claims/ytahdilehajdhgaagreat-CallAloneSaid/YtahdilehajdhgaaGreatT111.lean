/- Part T111 of the proofs about the program: Xb, K220, K223. Conditions: none. -/
import Derived.Test.YtahdilehajdhgaaGreatT32
import Derived.Test.YtahdilehajdhgaaGreatT100
open Int renaming toNat_natCast→E0
open List renaming reduceReplicate→D1
open Nat renaming reduceAdd→D4,reduceBEq→E1,reduceEqDiff→D0,reduceLT→E2,reduceLeDiff→D3,reduceMul→D6,reduceSub→D5
open Go.Proofs.Tryz renaming prog→D8
namespace Go.Sak
open Go Go.RowKit
def Bd (s:State) (k:Nat):Prop:=s.slots.length≤k∧s.sends.length≤k∧s.recvs.length≤k∧s.full.ln.length≤k∧s.empty.ln.length≤k∧s.threads.length≤k∧s.log.length≤k
theorem Bd.mono {s:State} {k n:Nat} (h:Bd s k) (hk:k≤n):Bd s n:=by unfold Bd at *; omega
theorem Kc {s:State}:cM s (-1)=s:=if_neg (by simp [cN])
theorem Bd.all {s:State} {k:Nat} (h:Bd s k):s.slots.length≤k∧s.sends.length≤k∧s.recvs.length≤k∧s.full.ln.length≤k∧s.empty.ln.length≤k∧s.threads.length≤k∧s.log.length≤k:=h
end Go.Sak
namespace Go.Sak
open Go Go.RowKit Go.Proofs
set_option linter.unusedVariables false
set_option linter.unusedSimpArgs false
set_option maxRecDepth 10000
set_option maxHeartbeats 8000000
theorem oX {s:State}:cX D8 15 [.agg (bR s)] (.bool (HX s),[],[]):=NZ
theorem Ba {s u:State} (h:Bd s 100000000):cX D8 17 [.agg (bR s),.agg (bR u)] (.bool (decide (s=u)),[],[]):=by
  obtain ⟨h1,h2,h3,h4,h5,h6,h7⟩:=h.all
  exact OA h1 h2 h3 h4 h5 h6 h7
theorem Ll {s:State} (h:HX s=true):Bd s 200:=by
  simp only [HX,Bool.and_eq_true,decide_eq_true_eq] at h
  unfold Bd; omega
theorem jK {s:State} (h:Bd s 100000000):cX D8 18 [.agg (bR s)] (.bool (bZ s),[],[]):=by
  obtain ⟨h1,h2,h3,h4,h5,h6,h7⟩:=h.all
  exact iS h1 h2 h3 h4 h5 h6 h7
theorem lZ {s:State} (h:Bd s 100000000):cX D8 41 [.agg (bR s),.int .i64 (-1)] (.agg (bR s),[],[]):=by
  obtain ⟨h1,h2,h3,h4,h5,h6,h7⟩:=h.all
  have:=Ni (aW:=s.cfg.lg) (aV:=s.cfg.th) (aN:=s.cfg.pol) (aX:=s.cfg.wt) (aG:=s.cfg.spin) (aO:=s.cfg.yld) (aA:=s.cfg.single) (bT:=s.word.h) (bV:=s.word.t) (bU:=s.word.m) (aZ:=s.full.ep) (bA:=s.empty.ep) (aL:=s.now) (id:=-1) h1 h2 h3 h4 h5 h6 h7
  rw [Kc] at this
  exact this
set_option maxHeartbeats 8000000
def JG:AFn:=⟨4,(.seq (.reg [o1 1 (.box 33 0),o1 2 (.mv (.const .fnnil))]) (.seq (.reg [o1 3 (.mkfn (.func 103) [] [1]),o1 2 (.mv 3)]) .ret)),[(2,none)]⟩
theorem C5:xf D8 58=some JG:=by kernel_rfl
noncomputable def cdD (k:Nat):Code:=match Tryz.f21.body with
  | some (.seq c0 (.seq cA (.seq (.seq cB _) cP)))=>match k with
    | 0=>c0
    | 1=>cA
    | 2=>cB
    | _=>cP
  | _=>.skip
def Qp:ACode:=.reg [⟨some 1,.box 33 (.tmp 0),none,[]⟩,⟨some 2,.alloc 48 [.slnil],none,[]⟩]
def Kq:ACode:=.seq (.reg [⟨some 5,.ld 20 true (.tmp 1),none,[]⟩,⟨some 6,.call 18 [.tmp 5],none,[]⟩,⟨some 7,.not (.tmp 6),none,[]⟩]) (.cond (.tmp 7) (.seq (.reg [⟨none,.st 1 (.tmp 2) (.const .slnil),none,[]⟩]) .ret) .skip)
def Qq:ACode:=.reg [⟨some 8,.ld 20 true (.tmp 1),none,[]⟩,⟨some 9,.call 58 [.tmp 8],none,[]⟩]
theorem UF:lV D8 22 (cdD 0)=some Qp:=by kernel_rfl
theorem UG:lV D8 22 (cdD 1)=some Kq:=by kernel_rfl
theorem XR:lV D8 22 (cdD 2)=some Qq:=by kernel_rfl
def IB (e0:Ex) (E:List AV) (M:AM) (B:Nat):KX:=fun e env m b=>e=e0∧env=E∧m=M∧b=B
theorem EZ {s:State} {b:Nat}:gM 1 [] (.fn (.func 103) [] [.ptr 1 0 0],[(1,some (.rows 33 20 [bR s]))],[]) (.fn (.func 103) [] [.ptr 1 0 0]) [(1,.rows 33 20 [bR s])] b :=
  sQ (m2:=[(1,.rows 33 20 [bR s])]) [] [(1,1)] (by simp [stOk]) rfl (by simp only [stM,nameT,lk,Blk.tr,trss,dQ _ _ (pure_encZ s),List.contains_nil,Bool.false_eq_true,if_false,Nat.lt_irrefl,if_true,Option.isSome_some,or_true,Option.getD_some]) (by simp) (by simp [AV.tr,trs,stT,nameT,lk])
theorem Nj {s:State}:cX D8 58 [.agg (bR s)] (.fn (.func 103) [] [.ptr 1 0 0],inlU [] [(1,.rows 33 20 [bR s])],[]):=by
  refine aI bP C5 (by simp [JG]) fun hw _=>?_
  clear hw
  repeat' with_reducible first|refine aQ (fun h=>?_) (fun h=>?_)|refine bB (fun h=>?_) (fun h=>?_)|refine aF (fun h=>?_) (fun h=>?_)|refine aH (fun h=>?_) (fun h=>?_)|refine sQ [] [(1,1)] ?_ ?_ ?_ ?_ ?_|refine aR ?_ ?_|refine bC ?_ ?_|refine bM ?_ ?_|refine IA ?_ ?_ ?_|refine L1 ?_ ?_|refine L2 ?_ ?_|refine L3 ?_ ?_ ?_ ?_|refine L4 ?_ ?_|refine L5 ?_ ?_ ?_ ?_ ?_|refine L6 ?_ ?_ ?_ ?_ ?_|simp -implicitDefEqProofs only [JG,qA,bN,bD,bO,aJ,aP,qU,D1,D4,D5,D3,D0,D6,reduceIte,reduceCtorEq,qI,E2,E1,cL,E0,bH,qZ, *]
  all_goals first
    | exact EZ
    | skip

theorem OO {s:State} (hb8:Bd s 100000000)  : vc D8 1 Qp (IB .normal [.agg (bR s),.ptr 1 0 0,.ptr 17 0 0,.und,.und,.und,.und,.und,.und,.und,.und,.und,.und,.und,.und,.und,.und,.und,.und,.und,.und,.und] [(1,.rows 33 20 [bR s]),(17,.rows 48 1 [[.slnil]])] 33) ([.agg (bR s)] ++ List.replicate 21 .und) ([]) 1:=by
  repeat' with_reducible first|refine aQ (fun h=>?_) (fun h=>?_)|refine bB (fun h=>?_) (fun h=>?_)|refine aF (fun h=>?_) (fun h=>?_)|refine aH (fun h=>?_) (fun h=>?_)|refine FN ?_ ?_ ?_ ?_ rfl ?_|refine aR ?_ ?_|refine bC ?_ ?_|refine bM ?_ ?_|refine IA ?_ ?_ ?_|refine L1 ?_ ?_|refine L2 ?_ ?_|refine L3 ?_ ?_ ?_ ?_|refine L4 ?_ ?_|refine L5 ?_ ?_ ?_ ?_ ?_|refine L6 ?_ ?_ ?_ ?_ ?_|refine AC.p0 (jK ?_) ?_ (by simp -implicitDefEqProofs only [qU,pure_encZ]; done) ?_ ?_|refine AC.n1 Nj ?_ (by simp -implicitDefEqProofs only [qU,pure_encZ]; done) ?_|simp -implicitDefEqProofs only [JG,qA,bN,bD,bO,aJ,aP,qU,D1,D4,D5,D3,D0,D6,reduceIte,reduceCtorEq,qI,E2,E1,cL,E0,bH,qZ,Qp,Kq,Qq,IB,HA,List.replicate_succ,List.replicate_zero, *]
  all_goals first
    | exact hb8
    | exact ⟨rfl,rfl,rfl,rfl⟩
    | skip

theorem WI {s:State} (hb8:Bd s 100000000) (hck:bZ s=true):vc D8 1 Kq (IB .normal [.agg (bR s),.ptr 1 0 0,.ptr 17 0 0,.und,.und,.agg (bR s),.bool true,.bool false,.und,.und,.und,.und,.und,.und,.und,.und,.und,.und,.und,.und,.und,.und] [(1,.rows 33 20 [bR s]),(17,.rows 48 1 [[.slnil]])] 81) ([.agg (bR s),.ptr 1 0 0,.ptr 17 0 0,.und,.und,.und,.und,.und,.und,.und,.und,.und,.und,.und,.und,.und,.und,.und,.und,.und,.und,.und]) ([(1,.rows 33 20 [bR s]),(17,.rows 48 1 [[.slnil]])]) 33:=by
  repeat' with_reducible first|refine aQ (fun h=>?_) (fun h=>?_)|refine bB (fun h=>?_) (fun h=>?_)|refine aF (fun h=>?_) (fun h=>?_)|refine aH (fun h=>?_) (fun h=>?_)|refine FN ?_ ?_ ?_ ?_ rfl ?_|refine aR ?_ ?_|refine bC ?_ ?_|refine bM ?_ ?_|refine IA ?_ ?_ ?_|refine L1 ?_ ?_|refine L2 ?_ ?_|refine L3 ?_ ?_ ?_ ?_|refine L4 ?_ ?_|refine L5 ?_ ?_ ?_ ?_ ?_|refine L6 ?_ ?_ ?_ ?_ ?_|refine AC.p0 (jK ?_) ?_ (by simp -implicitDefEqProofs only [qU,pure_encZ]; done) ?_ ?_|refine AC.n1 Nj ?_ (by simp -implicitDefEqProofs only [qU,pure_encZ]; done) ?_|simp -implicitDefEqProofs only [JG,qA,bN,bD,bO,aJ,aP,qU,D1,D4,D5,D3,D0,D6,reduceIte,reduceCtorEq,qI,E2,E1,cL,E0,bH,qZ,Qp,Kq,Qq,IB,HA,hck, *]
  all_goals first
    | exact hb8
    | exact ⟨rfl,rfl,rfl,rfl⟩
    | skip

theorem WH {s:State} (hb8:Bd s 100000000) (hck:bZ s=false):vc D8 1 Kq (IB .ret [.agg (bR s),.ptr 1 0 0,.ptr 17 0 0,.und,.und,.agg (bR s),.bool false,.bool true,.und,.und,.und,.und,.und,.und,.und,.und,.und,.und,.und,.und,.und,.und] [(1,.rows 33 20 [bR s]),(17,.rows 48 1 [[.slnil]])] 97) ([.agg (bR s),.ptr 1 0 0,.ptr 17 0 0,.und,.und,.und,.und,.und,.und,.und,.und,.und,.und,.und,.und,.und,.und,.und,.und,.und,.und,.und]) ([(1,.rows 33 20 [bR s]),(17,.rows 48 1 [[.slnil]])]) 33:=by
  repeat' with_reducible first|refine aQ (fun h=>?_) (fun h=>?_)|refine bB (fun h=>?_) (fun h=>?_)|refine aF (fun h=>?_) (fun h=>?_)|refine aH (fun h=>?_) (fun h=>?_)|refine FN ?_ ?_ ?_ ?_ rfl ?_|refine aR ?_ ?_|refine bC ?_ ?_|refine bM ?_ ?_|refine IA ?_ ?_ ?_|refine L1 ?_ ?_|refine L2 ?_ ?_|refine L3 ?_ ?_ ?_ ?_|refine L4 ?_ ?_|refine L5 ?_ ?_ ?_ ?_ ?_|refine L6 ?_ ?_ ?_ ?_ ?_|refine AC.p0 (jK ?_) ?_ (by simp -implicitDefEqProofs only [qU,pure_encZ]; done) ?_ ?_|refine AC.n1 Nj ?_ (by simp -implicitDefEqProofs only [qU,pure_encZ]; done) ?_|simp -implicitDefEqProofs only [JG,qA,bN,bD,bO,aJ,aP,qU,D1,D4,D5,D3,D0,D6,reduceIte,reduceCtorEq,qI,E2,E1,cL,E0,bH,qZ,Qp,Kq,Qq,IB,HA,hck, *]
  all_goals first
    | exact hb8
    | exact ⟨rfl,rfl,rfl,rfl⟩
    | skip

theorem WG {s:State} (hb8:Bd s 100000000)  : vc D8 1 Qq (IB .normal [.agg (bR s),.ptr 1 0 0,.ptr 17 0 0,.und,.und,.agg (bR s),.bool true,.bool false,.agg (bR s),.fn (.func 103) [] [.ptr 97 0 0],.und,.und,.und,.und,.und,.und,.und,.und,.und,.und,.und,.und] [(1,.rows 33 20 [bR s]),(17,.rows 48 1 [[.slnil]]),(97,.rows 33 20 [bR s])] 113) ([.agg (bR s),.ptr 1 0 0,.ptr 17 0 0,.und,.und,.agg (bR s),.bool true,.bool false,.und,.und,.und,.und,.und,.und,.und,.und,.und,.und,.und,.und,.und,.und]) ([(1,.rows 33 20 [bR s]),(17,.rows 48 1 [[.slnil]])]) 81:=by
  repeat' with_reducible first|refine aQ (fun h=>?_) (fun h=>?_)|refine bB (fun h=>?_) (fun h=>?_)|refine aF (fun h=>?_) (fun h=>?_)|refine aH (fun h=>?_) (fun h=>?_)|refine FN ?_ ?_ ?_ ?_ rfl ?_|refine aR ?_ ?_|refine bC ?_ ?_|refine bM ?_ ?_|refine IA ?_ ?_ ?_|refine L1 ?_ ?_|refine L2 ?_ ?_|refine L3 ?_ ?_ ?_ ?_|refine L4 ?_ ?_|refine L5 ?_ ?_ ?_ ?_ ?_|refine L6 ?_ ?_ ?_ ?_ ?_|refine AC.p0 (jK ?_) ?_ (by simp -implicitDefEqProofs only [qU,pure_encZ]; done) ?_ ?_|refine AC.n1 Nj ?_ (by simp -implicitDefEqProofs only [qU,pure_encZ]; done) ?_|simp -implicitDefEqProofs only [JG,qA,bN,bD,bO,aJ,aP,qU,D1,D4,D5,D3,D0,D6,reduceIte,reduceCtorEq,qI,E2,E1,cL,E0,bH,qZ,Qp,Kq,Qq,IB,HA, *]
  all_goals first
    | exact hb8
    | exact ⟨rfl,rfl,rfl,rfl⟩
    | skip

end Go.Sak
