/- Part U142 of the proofs about the program: Po2, K242. Conditions: none. -/
import Derived.Test.YtahdilehajdhgaaGreatU141
open Int renaming natCast_zero→AD,reduceEq→BC,reduceNe→BU,toNat_natCast→Zy
open List renaming mem_range→CB,reduceReplicate→Zj
open Nat renaming reduceAdd→Zs,reduceBEq→AB,reduceEqDiff→Zk,reduceLT→AE,reduceLeDiff→Zo,reduceMul→Zu,reduceSub→Zt
namespace Go.Sak
open Go Go.RowKit
set_option linter.unusedVariables false
theorem Co (s:State) (n:Nat):gN s (n+1)=(gN s n && !(cH s (n:Int) && !iA s (n:Int) && decide ((bL s (n:Int)).length=0))):=by
  unfold gN
  rw [List.range_succ,List.all_append]
  simp
theorem Cn {s:State} {n:Nat} (hn:n<s.threads.length) (hp:cH s (n:Int)=true) (hw:iA s (n:Int)=false) (hl:(bL s (n:Int)).length=0):lI s=false:=by
  unfold lI gN
  rw [List.all_eq_false]
  exact ⟨n,CB.2 hn,by simp [hp,hw,hl]⟩
theorem Av {s:State} {id x:Int} {n:Nat} (h:x∈mY s id n):∃ k:Nat,k<n∧eE s id k=true∧x=k:=by
  unfold mY at h
  obtain ⟨k,hk,rfl⟩:=List.mem_map.1 h
  obtain ⟨h1,h2⟩:=List.mem_filter.1 hk
  exact ⟨k,CB.1 h1,h2,rfl⟩
theorem Jb {s:State} {id x:Int} (h:x∈bL s id):0≤x∧x<s.threads.length∧x≠id∧(s.threads.getD x.toNat default).st=1:=by
  unfold bL at h
  split at h
  · rename_i hp
    obtain ⟨k,hk,hh,rfl⟩:=Av h
    simp only [cH,Bool.and_eq_true,decide_eq_true_eq] at hp
    obtain ⟨⟨⟨hf,p1⟩,p2⟩,p3⟩:=hp
    simp only [eE,Bool.and_eq_true,decide_eq_true_eq] at hh
    have hst:¬ (s.threads.getD k default).st=0∧¬ (s.threads.getD k default).st=2:=by
      have h1:=hh.1
      unfold qL at h1
      split at h1
      · simp at h1
      · rename_i h2
        split at h1
        · simp at h1
        · rename_i h3; exact ⟨h2,h3⟩
    have hm:s.threads.getD k default∈s.threads:=cT hk
    have ht:=(sG.1 hf).thr _ hm
    have hs:0≤(s.threads.getD k default).st∧(s.threads.getD k default).st≤2:=by
      simp only [bK,aS,Bool.and_eq_true,decide_eq_true_eq] at ht
      exact ht.1.1.1.1.1
    refine ⟨by omega,by omega,fun e=>?_,by rw [Zy]; omega⟩
    subst e
    unfold me at p3
    rw [Zy] at p3
    exact hst.2 p3
  · cases h
theorem Ja {s:State} {id:Int} (h:cH s id=false):bL s id=[]∧iA s id=false:=by
  constructor
  · unfold bL; rw [if_neg (by simp [h])]
  · unfold iA; rw [h]; rfl
def jP (s:State) (n:Nat):Bool:=(List.range n).any fun k=>decide ((s.threads.getD k default).st=2)
theorem Hh (s:State) (n:Nat):jP s (n+1)=(jP s n || decide ((s.threads.getD n default).st=2)):=by
  unfold jP
  rw [List.range_succ,List.any_append]
  simp
theorem uV {s:State} (h:jP s s.threads.length=false):lI s=true:=by
  unfold lI gN
  rw [List.all_eq_true]
  intro k hk
  have hk:=CB.1 hk
  unfold jP at h
  rw [List.any_eq_false] at h
  have h1:=h k (CB.2 hk)
  have:cH s (k:Int)=false:=by
    unfold cH me
    rw [Zy]
    cases hd:decide ((s.threads.getD k default).st=2) with
    | true=>exact absurd hd h1
    | false=>exact Bool.and_false _
  rw [this]; rfl
end Go.Sak
namespace Go.Sak
open Go Go.RowKit Go.Proofs
set_option linter.unusedVariables false
set_option linter.unusedSimpArgs false
set_option maxRecDepth 10000
set_option maxHeartbeats 8000000
theorem Cv {s:State} {id:Int}:(bL s id).length≤s.threads.length:=by
  unfold bL; split
  · exact tG _ _ _
  · simp
theorem jC {s:State} {id:Int} (hb:Bd s 100000000):bO Tryz.prog 33 [.agg (bQ s),.int .i64 id] (.slv 1 ((bL s id).map aW),[],[]):=by
  refine aG cD Uy (by simp [Jz]) fun hw _=>?_
  clear hw
  repeat' with_reducible first|refine aO (fun h=>?_) (fun h=>?_)|refine aT (fun h=>?_) (fun h=>?_)|refine aC (fun h=>?_) (fun h=>?_)|refine aH (fun h=>?_) (fun h=>?_)|refine FN ?_ ?_ ?_ ?_ rfl ?_|refine aP ?_ ?_|refine aU ?_ ?_|refine bE ?_ ?_|refine IA ?_ ?_ ?_|refine L1 ?_ ?_|refine L2 ?_ ?_|refine L3 ?_ ?_ ?_ ?_|refine L4 ?_ ?_|refine L5 ?_ ?_ ?_ ?_ ?_|refine L6 ?_ ?_ ?_ ?_ ?_|refine zU ?_ (by simp -implicitDefEqProofs only [qA,cK,bC,cM,aF,aL,qU,Zj,Zs,Zt,Zo,Zk,Zu,reduceIte,reduceCtorEq,qI,AE,AB,qZ,qM, *]; first|done|exact rfl) (fun hl=>?_) (fun hl=>?_)|simp -implicitDefEqProofs only [Jz,qA,cK,bC,cM,aF,aL,qU,Zj,Zs,Zt,Zo,Zk,Zu,reduceIte,reduceCtorEq,qI,AE,AB,iW,Zy,qZ,qC,qT,dY,iU,AD,bI,cG,cV,aX,aW,BC,BU,eO,eQ, *]
  all_goals first
    | exact hb
    | omega
    | exact Wk.nil _
    | exact Wk.refl _
    | (rw [hl]; exact Wk.nil _)
    | (refine Wk.of_eq ?_; rw [List.take_of_length_le (by simp)]; rfl)
    | (simp; done)
    | skip

def Hf:AFn:=⟨27,(.seq (.reg [o1 1 (.box 33 0),o1 2 (.mv (.const (.bool false)))]) (.seq (.seq (.reg [o1 4 (.faddr 18 1),o1 5 (.ld 1 false 4),o1 6 (.len 5),o1 7 (.mv (ci 0))]) (.block 0 (.loop (.seq (.reg [o1 8 (.bin .lss 7 6)]) (.seq (.cond 8 .skip (.exit 0)) (.seq (.block 1 (.seq (.reg [o1 9 (.mv 7),o1 3 (.mv 9)]) (.seq (.reg [o1 10 (.ld 20 true 1),o1 11 (.mv 3),o1 12 (.call 73 [10,11]),o1 13 (.mv 12),o3 14 (.ld 20 true 1) 13,o3 15 (.mv 3) 13,o3 16 (.call 34 [14,15]) 13,o3 17 (.not 16) 13,o1 18 (.pick 13 17 (.const (.bool false))),o1 19 (.mv 18),o3 20 (.ld 20 true 1) 19,o3 21 (.mv 3) 19,o3 22 (.call 33 [20,21]) 19,o3 23 (.len 22) 19,o3 24 (.bin .eql 23 (ci 0)) 19,o1 25 (.pick 19 24 (.const (.bool false)))]) (.cond 25 (.seq (.reg [o1 2 (.mv (.const (.bool false)))]) .ret) .skip)))) (.reg [o1 26 (.bin .add 7 (ci 1)),o1 7 (.mv 26)]))))))) (.seq (.reg [o1 2 (.mv (.const (.bool true)))]) .ret))),[(2,none)]⟩
theorem Va:xf Tryz.prog 35=some Hf:=by kernel_rfl
theorem lX {s:State} (hb:Bd s 100000000):bO Tryz.prog 35 [.agg (bQ s)] (.bool (lI s),[],[]):=by
  have hbt:=hb.all
  refine aG cD Va (by simp [Hf]) fun hw _=>?_
  clear hw
  repeat' with_reducible first|refine aO (fun h=>?_) (fun h=>?_)|refine aT (fun h=>?_) (fun h=>?_)|refine aC (fun h=>?_) (fun h=>?_)|refine aH (fun h=>?_) (fun h=>?_)|refine FN ?_ ?_ ?_ ?_ rfl ?_|refine aP ?_ ?_|refine aU ?_ ?_|refine bE ?_ ?_|refine IA ?_ ?_ ?_|refine L1 ?_ ?_|refine L2 ?_ ?_|refine L3 ?_ ?_ ?_ ?_|refine L4 ?_ ?_|refine L5 ?_ ?_ ?_ ?_ ?_|refine L6 ?_ ?_ ?_ ?_ ?_|refine AC.p0 (gC ?_) ?_ (by simp -implicitDefEqProofs only [qU,pure_encZ]; done) ?_ ?_|refine AC.p0 (jD ?_) ?_ (by simp -implicitDefEqProofs only [qU,pure_encZ]; done) ?_ ?_|refine AC.p0 (jC ?_) ?_ (by simp -implicitDefEqProofs only [qU,pure_encZ]; done) ?_ ?_|refine fK [] [(2,2)] (k+1) ?_ ?_ ?_ ?_ ?_ ?_|simp -implicitDefEqProofs only [Hf,qA,cK,bC,cM,aF,aL,qU,Zj,Zs,Zt,Zo,Zk,Zu,reduceIte,reduceCtorEq,qI,AE,AB,iW,Zy,qZ,qC,qT,dY,iU,AD,bI,cG,cV,aX,aW,BC,BU,eO,eQ, *]
  all_goals first
    | omega
    | exact hb
    | refine pN 5 (fun k:Nat=>nl 1 (some (.ptr 2 0 0) :: nl 4 (some (.int .i64 s.threads.length) :: some (.int .i64 k) :: nl 19 []))) (fun k=>[(2,.rows 33 20 [bQ s])]) (fun k=>k≤s.threads.length∧gN s k=true) (fun k=>s.threads.length - k) [] [(1,2)] 0 (by omega) ?_ ?_ ?_ ?_ ?_ ?_
    | skip
  rotate_right
  · rintro k ⟨hk,hJ⟩
    have hN:=Co s k
    have w2:IntKind.wrap .i64 ((k:Int)+1)=((k+1:Nat):Int):=aR (by omega) (by omega)
    have hE:k=s.threads.length→lI s=true:=fun e=>by unfold lI; rw [← e]; exact hJ
    have hF:=fun (a:k<s.threads.length)=>Cn (s:=s) a
    simp only [dF,dE,all_nil,eO,eQ]
    intros
    repeat' with_reducible first|refine aO (fun h=>?_) (fun h=>?_)|refine aT (fun h=>?_) (fun h=>?_)|refine aC (fun h=>?_) (fun h=>?_)|refine aH (fun h=>?_) (fun h=>?_)|refine FN ?_ ?_ ?_ ?_ rfl ?_|refine aP ?_ ?_|refine aU ?_ ?_|refine bE ?_ ?_|refine IA ?_ ?_ ?_|refine L1 ?_ ?_|refine L2 ?_ ?_|refine L3 ?_ ?_ ?_ ?_|refine L4 ?_ ?_|refine L5 ?_ ?_ ?_ ?_ ?_|refine L6 ?_ ?_ ?_ ?_ ?_|refine AC.p0 (gC ?_) ?_ (by simp -implicitDefEqProofs only [qU,pure_encZ]; done) ?_ ?_|refine AC.p0 (jD ?_) ?_ (by simp -implicitDefEqProofs only [qU,pure_encZ]; done) ?_ ?_|refine AC.p0 (jC ?_) ?_ (by simp -implicitDefEqProofs only [qU,pure_encZ]; done) ?_ ?_|refine fK [] [(2,2)] (k+1) ?_ ?_ ?_ ?_ ?_ ?_|simp -implicitDefEqProofs only [Hf,qA,cK,bC,cM,aF,aL,qU,Zj,Zs,Zt,Zo,Zk,Zu,reduceIte,reduceCtorEq,qI,AE,AB,iW,Zy,qZ,qC,qT,dY,iU,AD,bI,cG,cV,aX,aW,BC,BU,eO,eQ, *]
    all_goals first
      | exact hb
      | omega
      | exact Wk.refl _
      | (simp only [decide_eq_true_eq] at *; omega)
      | (simp only [decide_eq_false_iff_not] at *; rw [hE (by omega)]; exact Wk.refl _)
      | (simp only [decide_eq_true_eq] at *; rw [hF (by omega) (by assumption) (by assumption) (by omega)]; exact Wk.refl _)
      | (simp only [decide_eq_true_eq,decide_eq_false_iff_not] at *; exact ⟨by omega,by rw [decide_eq_false (by omega)]; rfl⟩)
      | skip
  all_goals first
    | omega
    | exact ⟨Nat.zero_le _,rfl⟩
    | (simp -implicitDefEqProofs only [qA,cK,bC,cM,aF,aL,qU,Zj,Zs,Zt,Zo,Zk,Zu,reduceIte,reduceCtorEq,qI,AE,AB,qZ,eO,eQ,qC]; first | done | (simp; done))
    | skip

end Go.Sak
