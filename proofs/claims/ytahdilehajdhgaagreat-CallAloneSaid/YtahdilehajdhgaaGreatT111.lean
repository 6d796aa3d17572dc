/- Part T111 of the proofs about the program: Xb, K220, K223. Conditions: none. -/
import Derived.Test.YtahdilehajdhgaaGreatT32
import Derived.Test.YtahdilehajdhgaaGreatT100
open Int renaming toNat_natCast→E1
open List renaming reduceReplicate→D2
open Nat renaming reduceAdd→D5,reduceBEq→E2,reduceEqDiff→D1,reduceLT→E3,reduceLeDiff→D4,reduceMul→D7,reduceSub→D6
open Go.Proofs.Tryz renaming prog→D9
namespace Go.Sak
open Go Go.RowKit
def Bd (s:State) (k:Nat):Prop:=s.slots.length≤k∧s.sends.length≤k∧s.recvs.length≤k∧s.full.ln.length≤k∧s.empty.ln.length≤k∧s.threads.length≤k∧s.log.length≤k
theorem Bd.mono {s:State} {k n:Nat} (h:Bd s k) (hk:k≤n):Bd s n:=by unfold Bd at *; omega
theorem Kd {s:State}:cM s (-1)=s:=if_neg (by simp [cN])
theorem Bd.all {s:State} {k:Nat} (h:Bd s k):s.slots.length≤k∧s.sends.length≤k∧s.recvs.length≤k∧s.full.ln.length≤k∧s.empty.ln.length≤k∧s.threads.length≤k∧s.log.length≤k:=h
end Go.Sak
namespace Go.Sak
open Go Go.RowKit Go.Proofs
set_option linter.unusedVariables false
set_option linter.unusedSimpArgs false
set_option maxRecDepth 10000
set_option maxHeartbeats 8000000
theorem oY {s:State}:cX D9 15 [.agg (bR s)] (.bool (HY s),[],[]):=OA
theorem Bb {s u:State} (h:Bd s 100000000):cX D9 17 [.agg (bR s),.agg (bR u)] (.bool (decide (s=u)),[],[]):=by
  obtain ⟨h1,h2,h3,h4,h5,h6,h7⟩:=h.all
  exact OB h1 h2 h3 h4 h5 h6 h7
theorem Lm {s:State} (h:HY s=true):Bd s 200:=by
  simp only [HY,Bool.and_eq_true,decide_eq_true_eq] at h
  unfold Bd; omega
theorem jL {s:State} (h:Bd s 100000000):cX D9 18 [.agg (bR s)] (.bool (bZ s),[],[]):=by
  obtain ⟨h1,h2,h3,h4,h5,h6,h7⟩:=h.all
  exact iT h1 h2 h3 h4 h5 h6 h7
theorem mA {s:State} (h:Bd s 100000000):cX D9 41 [.agg (bR s),.int .i64 (-1)] (.agg (bR s),[],[]):=by
  obtain ⟨h1,h2,h3,h4,h5,h6,h7⟩:=h.all
  have:=Nj (aW:=s.cfg.lg) (aV:=s.cfg.th) (aN:=s.cfg.pol) (aX:=s.cfg.wt) (aG:=s.cfg.spin) (aO:=s.cfg.yld) (aA:=s.cfg.single) (bT:=s.word.h) (bV:=s.word.t) (bU:=s.word.m) (aZ:=s.full.ep) (bA:=s.empty.ep) (aL:=s.now) (id:=-1) h1 h2 h3 h4 h5 h6 h7
  rw [Kd] at this
  exact this
set_option maxHeartbeats 8000000
def JH:AFn:=⟨4,(.seq (.reg [o1 1 (.box 33 0),o1 2 (.mv (.const .fnnil))]) (.seq (.reg [o1 3 (.mkfn (.func 103) [] [1]),o1 2 (.mv 3)]) .ret)),[(2,none)]⟩
theorem C6:xf D9 58=some JH:=by kernel_rfl
noncomputable def cdD (k:Nat):Code:=match Tryz.f21.body with
  | some (.seq c0 (.seq cA (.seq (.seq cB _) cP)))=>match k with
    | 0=>c0
    | 1=>cA
    | 2=>cB
    | _=>cP
  | _=>.skip
def Qq:ACode:=.reg [⟨some 1,.box 33 (.tmp 0),none,[]⟩,⟨some 2,.alloc 48 [.slnil],none,[]⟩]
def Kr:ACode:=.seq (.reg [⟨some 5,.ld 20 true (.tmp 1),none,[]⟩,⟨some 6,.call 18 [.tmp 5],none,[]⟩,⟨some 7,.not (.tmp 6),none,[]⟩]) (.cond (.tmp 7) (.seq (.reg [⟨none,.st 1 (.tmp 2) (.const .slnil),none,[]⟩]) .ret) .skip)
def Qr:ACode:=.reg [⟨some 8,.ld 20 true (.tmp 1),none,[]⟩,⟨some 9,.call 58 [.tmp 8],none,[]⟩]
theorem UG:lW D9 22 (cdD 0)=some Qq:=by kernel_rfl
theorem UH:lW D9 22 (cdD 1)=some Kr:=by kernel_rfl
theorem XS:lW D9 22 (cdD 2)=some Qr:=by kernel_rfl
def IC (e0:Ex) (E:List AV) (M:AM) (B:Nat):KX:=fun e env m b=>e=e0∧env=E∧m=M∧b=B
theorem FA {s:State} {b:Nat}:gN 1 [] (.fn (.func 103) [] [.ptr 1 0 0],[(1,some (.rows 33 20 [bR s]))],[]) (.fn (.func 103) [] [.ptr 1 0 0]) [(1,.rows 33 20 [bR s])] b :=
  sR (m2:=[(1,.rows 33 20 [bR s])]) [] [(1,1)] (by simp [stOk]) rfl (by simp only [stM,nameT,lk,Blk.tr,trss,dQ _ _ (pure_encZ s),List.contains_nil,Bool.false_eq_true,if_false,Nat.lt_irrefl,if_true,Option.isSome_some,or_true,Option.getD_some]) (by simp) (by simp [AV.tr,trs,stT,nameT,lk])
theorem Nk {s:State}:cX D9 58 [.agg (bR s)] (.fn (.func 103) [] [.ptr 1 0 0],inlU [] [(1,.rows 33 20 [bR s])],[]):=by
  refine aI bP C6 (by simp [JH]) fun hw _=>?_
  clear hw
  repeat' with_reducible first|refine aQ (fun h=>?_) (fun h=>?_)|refine bB (fun h=>?_) (fun h=>?_)|refine aF (fun h=>?_) (fun h=>?_)|refine aH (fun h=>?_) (fun h=>?_)|refine sR [] [(1,1)] ?_ ?_ ?_ ?_ ?_|refine aR ?_ ?_|refine bC ?_ ?_|refine bM ?_ ?_|refine IA ?_ ?_ ?_|refine L1 ?_ ?_|refine L2 ?_ ?_|refine L3 ?_ ?_ ?_ ?_|refine L4 ?_ ?_|refine L5 ?_ ?_ ?_ ?_ ?_|refine L6 ?_ ?_ ?_ ?_ ?_|simp -implicitDefEqProofs only [JH,qA,bN,bD,bO,aJ,aP,qU,D2,D5,D6,D4,D1,D7,reduceIte,reduceCtorEq,qI,E3,E2,cL,E1,bH,qZ, *]
  all_goals first
    | exact FA
    | skip

theorem OP {s:State} (hb8:Bd s 100000000)  : vc D9 1 Qq (IC .normal [.agg (bR s),.ptr 1 0 0,.ptr 17 0 0,.und,.und,.und,.und,.und,.und,.und,.und,.und,.und,.und,.und,.und,.und,.und,.und,.und,.und,.und] [(1,.rows 33 20 [bR s]),(17,.rows 48 1 [[.slnil]])] 33) ([.agg (bR s)] ++ List.replicate 21 .und) ([]) 1:=by
  repeat' with_reducible first|refine aQ (fun h=>?_) (fun h=>?_)|refine bB (fun h=>?_) (fun h=>?_)|refine aF (fun h=>?_) (fun h=>?_)|refine aH (fun h=>?_) (fun h=>?_)|refine FN ?_ ?_ ?_ ?_ rfl ?_|refine aR ?_ ?_|refine bC ?_ ?_|refine bM ?_ ?_|refine IA ?_ ?_ ?_|refine L1 ?_ ?_|refine L2 ?_ ?_|refine L3 ?_ ?_ ?_ ?_|refine L4 ?_ ?_|refine L5 ?_ ?_ ?_ ?_ ?_|refine L6 ?_ ?_ ?_ ?_ ?_|refine AC.p0 (jL ?_) ?_ (by simp -implicitDefEqProofs only [qU,pure_encZ]; done) ?_ ?_|refine AC.n1 Nk ?_ (by simp -implicitDefEqProofs only [qU,pure_encZ]; done) ?_|simp -implicitDefEqProofs only [JH,qA,bN,bD,bO,aJ,aP,qU,D2,D5,D6,D4,D1,D7,reduceIte,reduceCtorEq,qI,E3,E2,cL,E1,bH,qZ,Qq,Kr,Qr,IC,HB,List.replicate_succ,List.replicate_zero, *]
  all_goals first
    | exact hb8
    | exact ⟨rfl,rfl,rfl,rfl⟩
    | skip

theorem WJ {s:State} (hb8:Bd s 100000000) (hck:bZ s=true):vc D9 1 Kr (IC .normal [.agg (bR s),.ptr 1 0 0,.ptr 17 0 0,.und,.und,.agg (bR s),.bool true,.bool false,.und,.und,.und,.und,.und,.und,.und,.und,.und,.und,.und,.und,.und,.und] [(1,.rows 33 20 [bR s]),(17,.rows 48 1 [[.slnil]])] 81) ([.agg (bR s),.ptr 1 0 0,.ptr 17 0 0,.und,.und,.und,.und,.und,.und,.und,.und,.und,.und,.und,.und,.und,.und,.und,.und,.und,.und,.und]) ([(1,.rows 33 20 [bR s]),(17,.rows 48 1 [[.slnil]])]) 33:=by
  repeat' with_reducible first|refine aQ (fun h=>?_) (fun h=>?_)|refine bB (fun h=>?_) (fun h=>?_)|refine aF (fun h=>?_) (fun h=>?_)|refine aH (fun h=>?_) (fun h=>?_)|refine FN ?_ ?_ ?_ ?_ rfl ?_|refine aR ?_ ?_|refine bC ?_ ?_|refine bM ?_ ?_|refine IA ?_ ?_ ?_|refine L1 ?_ ?_|refine L2 ?_ ?_|refine L3 ?_ ?_ ?_ ?_|refine L4 ?_ ?_|refine L5 ?_ ?_ ?_ ?_ ?_|refine L6 ?_ ?_ ?_ ?_ ?_|refine AC.p0 (jL ?_) ?_ (by simp -implicitDefEqProofs only [qU,pure_encZ]; done) ?_ ?_|refine AC.n1 Nk ?_ (by simp -implicitDefEqProofs only [qU,pure_encZ]; done) ?_|simp -implicitDefEqProofs only [JH,qA,bN,bD,bO,aJ,aP,qU,D2,D5,D6,D4,D1,D7,reduceIte,reduceCtorEq,qI,E3,E2,cL,E1,bH,qZ,Qq,Kr,Qr,IC,HB,hck, *]
  all_goals first
    | exact hb8
    | exact ⟨rfl,rfl,rfl,rfl⟩
    | skip

theorem WI {s:State} (hb8:Bd s 100000000) (hck:bZ s=false):vc D9 1 Kr (IC .ret [.agg (bR s),.ptr 1 0 0,.ptr 17 0 0,.und,.und,.agg (bR s),.bool false,.bool true,.und,.und,.und,.und,.und,.und,.und,.und,.und,.und,.und,.und,.und,.und] [(1,.rows 33 20 [bR s]),(17,.rows 48 1 [[.slnil]])] 97) ([.agg (bR s),.ptr 1 0 0,.ptr 17 0 0,.und,.und,.und,.und,.und,.und,.und,.und,.und,.und,.und,.und,.und,.und,.und,.und,.und,.und,.und]) ([(1,.rows 33 20 [bR s]),(17,.rows 48 1 [[.slnil]])]) 33:=by
  repeat' with_reducible first|refine aQ (fun h=>?_) (fun h=>?_)|refine bB (fun h=>?_) (fun h=>?_)|refine aF (fun h=>?_) (fun h=>?_)|refine aH (fun h=>?_) (fun h=>?_)|refine FN ?_ ?_ ?_ ?_ rfl ?_|refine aR ?_ ?_|refine bC ?_ ?_|refine bM ?_ ?_|refine IA ?_ ?_ ?_|refine L1 ?_ ?_|refine L2 ?_ ?_|refine L3 ?_ ?_ ?_ ?_|refine L4 ?_ ?_|refine L5 ?_ ?_ ?_ ?_ ?_|refine L6 ?_ ?_ ?_ ?_ ?_|refine AC.p0 (jL ?_) ?_ (by simp -implicitDefEqProofs only [qU,pure_encZ]; done) ?_ ?_|refine AC.n1 Nk ?_ (by simp -implicitDefEqProofs only [qU,pure_encZ]; done) ?_|simp -implicitDefEqProofs only [JH,qA,bN,bD,bO,aJ,aP,qU,D2,D5,D6,D4,D1,D7,reduceIte,reduceCtorEq,qI,E3,E2,cL,E1,bH,qZ,Qq,Kr,Qr,IC,HB,hck, *]
  all_goals first
    | exact hb8
    | exact ⟨rfl,rfl,rfl,rfl⟩
    | skip

theorem WH {s:State} (hb8:Bd s 100000000)  : vc D9 1 Qr (IC .normal [.agg (bR s),.ptr 1 0 0,.ptr 17 0 0,.und,.und,.agg (bR s),.bool true,.bool false,.agg (bR s),.fn (.func 103) [] [.ptr 97 0 0],.und,.und,.und,.und,.und,.und,.und,.und,.und,.und,.und,.und] [(1,.rows 33 20 [bR s]),(17,.rows 48 1 [[.slnil]]),(97,.rows 33 20 [bR s])] 113) ([.agg (bR s),.ptr 1 0 0,.ptr 17 0 0,.und,.und,.agg (bR s),.bool true,.bool false,.und,.und,.und,.und,.und,.und,.und,.und,.und,.und,.und,.und,.und,.und]) ([(1,.rows 33 20 [bR s]),(17,.rows 48 1 [[.slnil]])]) 81:=by
  repeat' with_reducible first|refine aQ (fun h=>?_) (fun h=>?_)|refine bB (fun h=>?_) (fun h=>?_)|refine aF (fun h=>?_) (fun h=>?_)|refine aH (fun h=>?_) (fun h=>?_)|refine FN ?_ ?_ ?_ ?_ rfl ?_|refine aR ?_ ?_|refine bC ?_ ?_|refine bM ?_ ?_|refine IA ?_ ?_ ?_|refine L1 ?_ ?_|refine L2 ?_ ?_|refine L3 ?_ ?_ ?_ ?_|refine L4 ?_ ?_|refine L5 ?_ ?_ ?_ ?_ ?_|refine L6 ?_ ?_ ?_ ?_ ?_|refine AC.p0 (jL ?_) ?_ (by simp -implicitDefEqProofs only [qU,pure_encZ]; done) ?_ ?_|refine AC.n1 Nk ?_ (by simp -implicitDefEqProofs only [qU,pure_encZ]; done) ?_|simp -implicitDefEqProofs only [JH,qA,bN,bD,bO,aJ,aP,qU,D2,D5,D6,D4,D1,D7,reduceIte,reduceCtorEq,qI,E3,E2,cL,E1,bH,qZ,Qq,Kr,Qr,IC,HB, *]
  all_goals first
    | exact hb8
    | exact ⟨rfl,rfl,rfl,rfl⟩
    | skip

end Go.Sak
