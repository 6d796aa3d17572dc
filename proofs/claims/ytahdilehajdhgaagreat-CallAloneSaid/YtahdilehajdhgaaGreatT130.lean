/- Part T130 of the proofs about the program: Ph, K236. Conditions: none. -/
import Derived.Test.YtahdilehajdhgaaGreatT126
import Derived.Test.YtahdilehajdhgaaGreatT43
open Go.Sak.AC renaming p0→G9
open Int renaming natCast_zero→F1,reduceEq→F4,reduceNe→F5,toNat_natCast→E0
open List renaming length_set→G8,reduceReplicate→D1
open Nat renaming le_refl→G1,reduceAdd→D4,reduceBEq→E1,reduceEqDiff→D0,reduceLT→E2,reduceLeDiff→D3,reduceMul→D6,reduceSub→D5
open Go.Sak.Wk renaming of_eq→H2,refl→G3
namespace Go.Sak
open Go Go.RowKit
set_option linter.unusedVariables false
set_option linter.unusedSimpArgs false
theorem zN (s:State):fY s s=0:=by simp [fY,xP]
theorem LV {α:Type} {l:List α} {i:Nat} {d:α}:l.set i (l.getD i d)=l:=by
  refine List.ext_getElem? fun j=>?_
  rw [List.getElem?_set]
  split
  · rename_i h; subst h
    split
    · rename_i h2; rw [List.getD_eq_getElem?_getD,List.getElem?_eq_getElem h2]; rfl
    · rename_i h2; exact (List.getElem?_eq_none (by omega)).symm
  · rfl
theorem LR (s:State) (id:Int):dD s id (me s id)=s:=by
  unfold dD me; rw [LV]
def Ma (k v u:Int):Thread:=⟨1,k,v,if iE k then u else 0,0,0,0,0,false,0,0⟩
theorem Zp {t:Thread} {k v u:Int} (h:¬ (jA t k v u).2=0):(jA t k v u).1=t:=by
  unfold jA at h ⊢
  split
  · rfl
  · rename_i h1; rw [if_neg h1] at h
    split
    · rfl
    · rename_i h2; rw [if_neg h2] at h
      split
      · rfl
      · rename_i h3; rw [if_neg h3] at h; exact absurd rfl h
theorem GW {t:Thread} {k v u:Int} (h:(jA t k v u).2=0):t.st=0∧lI k=true∧(iE k=true→cD u 0 1099511627776=true)∧(jA t k v u).1=Ma k v u:=by
  unfold jA at h ⊢
  split at h
  · cases h
  · rename_i h1
    rw [if_neg h1]
    split at h
    · cases h
    · rename_i h2
      rw [if_neg h2]
      split at h
      · cases h
      · rename_i h3
        rw [if_neg h3]
        exact ⟨Classical.not_not.1 h1,Classical.not_not.1 h2,fun e=>Classical.not_not.1 fun e2=>h3 ⟨e,e2⟩,rfl⟩
theorem MA {k v u:Int} (h:lI k=true) (hu:iE k=true→cD u 0 1099511627776=true):cZ (Ma k v u)=true:=by
  cases ht:iE k with
  | true =>
    have hu:=hu ht
    simp [cZ,Ma,nC,nE,jN,h,ht,hu,cD]
    simpa [cD] using hu
  | false=>simp [cZ,Ma,nC,nE,jN,h,ht,cD]
theorem FL {s:State} {id k v u:Int} (h:¬ (fN s id k v u).2=0):(fN s id k v u).1=s:=by
  unfold fN at h ⊢
  split
  · rfl
  · rename_i h1; rw [if_neg h1] at h
    split
    · rfl
    · rename_i h2; rw [if_neg h2] at h
      split
      · rename_i h3
        rw [if_pos h3] at h
        show dD s id (jA (me s id) k v u).1=s
        rw [Zp h,LR]
      · rfl
theorem LE {s:State} {id k v u:Int} (h:(fN s id k v u).2=0):bZ s=true∧cN s id=true∧uJ s.cfg.th s.cfg.single id k=0∧(me s id).st=0∧lI k=true∧(iE k=true→cD u 0 1099511627776=true)∧(fN s id k v u).1=dD s id (Ma k v u):=by
  unfold fN at h ⊢
  split at h
  · cases h
  · rename_i h1
    rw [if_neg h1]
    have hc:bZ s=true:=Classical.not_not.1 h1
    split at h
    · rename_i h2; exact absurd h h2
    · rename_i h2
      rw [if_neg h2]
      have hm:=Classical.not_not.1 h2
      have hI:cN s id=true:=by
        have hl:=(qO.1 hc).thl
        simp only [cN,hc,Bool.true_and,Bool.and_eq_true,decide_eq_true_eq]
        unfold uJ at hm
        split at hm
        · cases hm
        · omega
      rw [if_pos hI] at h ⊢
      obtain ⟨a,b,c,d⟩:=GW h
      exact ⟨hc,hI,hm,a,b,c,by show dD s id (jA (me s id) k v u).1=_; rw [d]⟩
theorem Gi {s:State} {x:Cal} (h:¬ (oW s x).2=0):(oW s x).1=s:=by
  unfold oW at h ⊢
  split
  · rfl
  · rename_i h1; rw [if_neg h1] at h
    split
    · rename_i h2; rw [if_pos h2] at h; exact (Zl h).1
    · rename_i h2; rw [if_neg h2] at h
      split
      · rename_i h3; rw [if_pos h3] at h; exact IN h
      · rename_i h3; rw [if_neg h3] at h; exact FL h
inductive Did (s:State) (x:Cal) (a:State):Prop where
  | tick (hk:x.k=11) (h0:0≤x.v) (h1:x.v≤1099511627776 - s.now) (e:a=gB (rF s (s.now+x.v)) (fO s x.v)):Did s x a
  | pick (hk:x.k=10) (hi:cN s x.th=true) (hr:kB (me s x.th)=0) (e:a=oO s x.th):Did s x a
  | inv (h1:¬ x.k=11) (h2:¬ x.k=10) (hi:cN s x.th=true) (hm:uJ s.cfg.th s.cfg.single x.th x.k=0) (hs:(me s x.th).st=0) (hc:lI x.k=true) (hu:iE x.k=true→cD (IntKind.wrap .i64 (s.now+x.u)) 0 1099511627776=true) (e:a=dD s x.th (Ma x.k x.v (IntKind.wrap .i64 (s.now+x.u)))):Did s x a
theorem If {s:State} {x:Cal} (h:(oW s x).2=0):lW x=0∧bZ s=true∧Did s x (oW s x).1:=by
  unfold oW at h ⊢
  split at h
  · rename_i h1; exact absurd h h1
  · rename_i h1
    rw [if_neg h1]
    refine ⟨Classical.not_not.1 h1,?_⟩
    split at h
    · rename_i h2
      rw [if_pos h2]
      obtain ⟨a,b,c,d⟩:=Mc h
      exact ⟨a,.tick h2 b c (by rw [d])⟩
    · rename_i h2
      rw [if_neg h2]
      split at h
      · rename_i h3
        rw [if_pos h3]
        obtain ⟨a,b⟩:=GI.1 h
        refine ⟨?_,.pick h3 a b (Gx h)⟩
        simp only [cN,Bool.and_eq_true] at a; exact a.1.1
      · rename_i h3
        rw [if_neg h3]
        obtain ⟨a,b,c,d,e,f,g⟩:=LE h
        exact ⟨a,.inv h2 h3 b c d e f g⟩
theorem KT {s:State} {x:Cal} (h:Fab s):Fab (oW s x).1:=by
  by_cases e:(oW s x).2=0
  · obtain ⟨_,_,d⟩:=If e
    generalize (oW s x).1=a at d
    cases d with
    | tick hk h0 h1 e=>rw [e]; exact Zm h h0 h1
    | pick hk hi hr e=>rw [e]; exact Gw h
    | inv h1 h2 hi hm hs hc hu e=>rw [e]; exact h.put (MA hc hu)
  · rw [Gi e]; exact h
theorem Rs {s:State} {x:Cal} (h:(oW s x).2=0):x.k=11∨fY s (oW s x).1≤1:=by
  obtain ⟨_,_,d⟩:=If h
  cases d with
  | tick hk _ _ _=>exact .inl hk
  | pick hk hi hr e=>rw [e,← Gx (GI.2 ⟨hi,hr⟩)]; exact .inr Ys
  | inv h1 h2 hi hm hs hc hu e=>rw [e,kO,zN]; exact .inr (by decide)
def sE (a b:List Thread):Nat→Nat
  | 0=>0
  | n+1=>sE a b n+(if a.getD n default=b.getD n default then 0 else 1)
theorem Nb (a b:List Thread):∀ n,sE a b n≤n
  | 0=>G1 0
  | n+1=>by have:=Nb a b n; simp only [sE]; split <;> omega
theorem Hv (a:List Thread) (i:Nat) (x:Thread):∀ n,sE a (a.set i x) n≤if i<n then 1 else 0
  | 0=>by simp [sE]
  | n + 1=>by
    have ih:=Hv a i x n
    simp only [sE]
    by_cases h:i=n
    · subst h
      rw [if_neg (Nat.lt_irrefl _)] at ih
      rw [if_pos (Nat.lt_succ_self _)]
      split <;> omega
    · have:(a.set i x).getD n default=a.getD n default:=by rw [Bw,if_neg (fun e=>h e.1)]
      rw [this]
      simp only [if_true,Nat.add_zero]
      refine Nat.le_trans ih ?_
      by_cases c:i<n
      · rw [if_pos c,if_pos (by omega)]; exact G1 1
      · rw [if_neg c]; exact Nat.zero_le _
theorem Wj {s:State} {x:Cal} (h:(oW s x).2=0) (hk:¬ x.k=10):(oW s x).1.log=s.log∧(oW s x).1.word=s.word∧(oW s x).1.sends=s.sends∧(oW s x).1.recvs=s.recvs∧(oW s x).1.threads.length=s.threads.length∧(x.k=11∨((∀ n,sE s.threads (oW s x).1.threads n≤1)∧fY s (oW s x).1=0)):=by
  obtain ⟨_,_,d⟩:=If h
  generalize (oW s x).1=a at d
  cases d with
  | tick hk _ _ e =>
    obtain ⟨a,b,c,d,f,g⟩:=Eh (fO s x.v) (rF s (s.now+x.v))
    rw [e]
    exact ⟨g,b,d,f,Bn _ _,.inl hk⟩
  | pick hk2 hi hr e=>exact absurd hk2 hk
  | inv h1 h2 hi hm hs hc hu e =>
    rw [e]
    refine ⟨rfl,rfl,rfl,rfl,G8 ..,.inr ⟨fun n=>?_,by rw [kO,zN]⟩⟩
    have:=Hv s.threads x.th.toNat (Ma x.k x.v (IntKind.wrap .i64 (s.now+x.u))) n
    show sE s.threads (s.threads.set _ _) n≤1
    split at this <;> omega
theorem HW {s:State} {x:Cal} {k:Nat} (h:Bd s k):Bd (oW s x).1 (k+1):=by
  by_cases e:(oW s x).2=0
  · obtain ⟨_,_,d⟩:=If e
    generalize (oW s x).1=a at d
    cases d with
    | tick hk h0 h1 e=>rw [e]; exact (Gn _ (show Bd (rF s (s.now+x.v)) k from h)).mono (by omega)
    | pick hk hi hr e=>rw [e,← Gx (GI.2 ⟨hi,hr⟩)]; exact Uf h
    | inv h1 h2 hi hm hs hc hu e =>
      rw [e]
      unfold Bd at *
      simp only [dD,G8]; omega
  · rw [Gi e]; exact h.mono (by omega)
end Go.Sak
namespace Go.Sak
open Go Go.RowKit Go.Proofs
set_option linter.unusedVariables false
set_option linter.unusedSimpArgs false
set_option maxRecDepth 10000
set_option maxHeartbeats 8000000
def Tq:AFn:=⟨52,(.seq (.reg [o1 2 (.box 33 0),o1 3 (.box 54 1),o1 4 (.mv (.const (.bool false)))]) (.seq (.reg [o1 8 (.call 22 []),o1 5 (.mv 8)]) (.seq (.seq (.reg [o1 9 (.ld 20 true 2),o1 10 (.call 15 [9]),o1 11 (.not 10)]) (.cond 11 (.seq (.reg [o1 12 (.mv 5),o1 4 (.mv 12)]) .ret) .skip)) (.seq (.reg [o1 14 (.ld 20 true 2),o1 15 (.ld 4 true 3),o1 16 (.call 25 [14,15]),o1 13 (.mv 16),o1 17 (.ext 13 0),o1 18 (.ext 13 1),o1 6 (.alloc 33 [(.int .i64 0),(.int .i64 0),(.int .i64 0),(.int .i64 0),(.int .i64 0),(.int .i64 0),(.bool false),(.int .i64 0),(.int .i64 0),(.int .i64 0),.slnil,.slnil,.slnil,(.int .i64 0),.slnil,(.int .i64 0),.slnil,(.int .i64 0),.slnil,.slnil]),o2 (.st 20 6 17),o1 7 (.mv 18)]) (.seq (.reg [o1 19 (.mv 5),o1 20 (.mv 19),o3 21 (.mv 7) 20,o3 22 (.bin .neq 21 (ci 0)) 20,o3 23 (.mv 22) 20,o3 24 (.ld 20 true 6) 23,o3 25 (.ld 20 true 2) 23,o3 26 (.call 17 [24,25]) 23,o3 27 (.pick 23 26 (.const (.bool false))) 20,o3 28 (.mv 27) 20,o4 29 (.mv 7) 28,o4 30 (.bin .eql 29 (ci 0)) 28,o4 31 (.mv 30) 28,o3 32 (.ld 20 true 2) 31,o3 33 (.call 18 [32]) 31,o4 34 (.pick 31 33 (.const (.bool false))) 28,o4 35 (.mv 34) 28,o3 36 (.ld 20 true 6) 35,o3 37 (.call 18 [36]) 35,o4 38 (.pick 35 37 (.const (.bool false))) 28,o4 39 (.mv 38) 28,o3 40 (.faddr 0 3) 39,o3 41 (.ld 1 false 40) 39,o3 42 (.bin .eql 41 (ci 11)) 39,o3 43 (.mv 42) 39,o4 44 (.ld 20 true 2) 43,o4 45 (.ld 20 true 6) 43,o4 46 (.call 30 [44,45]) 43,o4 47 (.bin .leq 46 (ci 1)) 43,o3 48 (.pick 43 (.const (.bool true)) 47) 39,o4 49 (.pick 39 48 (.const (.bool false))) 28,o3 50 (.pick 28 (.const (.bool true)) 49) 20,o1 51 (.pick 20 50 (.const (.bool false))),o1 4 (.mv 51)]) .ret))))),[(4,none)]⟩
theorem Dr:xf Tryz.prog 10=some Tq:=by kernel_rfl
theorem NX {s:State} {k th v u:Int} (hA:cX Tryz.prog 22 [] (.bool true,[],[])):cX Tryz.prog 10 [.agg (bR s),.agg [.int .i64 k,.int .i64 th,.int .i64 v,.int .i64 u]] (.bool true,[],[]):=by
  cases hf:HX s with
  | false =>
    refine aI bP Dr (by simp [Tq]) fun hw _=>?_
    clear hw
    repeat' with_reducible first|refine aQ (fun h=>?_) (fun h=>?_)|refine bB (fun h=>?_) (fun h=>?_)|refine aF (fun h=>?_) (fun h=>?_)|refine aH (fun h=>?_) (fun h=>?_)|refine FN ?_ ?_ ?_ ?_ rfl ?_|refine aR ?_ ?_|refine bC ?_ ?_|refine bM ?_ ?_|refine IA ?_ ?_ ?_|refine L1 ?_ ?_|refine L2 ?_ ?_|refine L3 ?_ ?_ ?_ ?_|refine L4 ?_ ?_|refine L5 ?_ ?_ ?_ ?_ ?_|refine L6 ?_ ?_ ?_ ?_ ?_|refine G9 hA ?_ (by simp -implicitDefEqProofs only [qU,pure_encZ]; done) ?_ ?_|refine G9 (oX ) ?_ (by simp -implicitDefEqProofs only [qU,pure_encZ]; done) ?_ ?_|refine G9 (oY ?_) ?_ (by simp -implicitDefEqProofs only [qU,pure_encZ]; done) ?_ ?_|refine G9 (jK ?_) ?_ (by simp -implicitDefEqProofs only [qU,pure_encZ]; done) ?_ ?_|refine G9 (Ba ?_) ?_ (by simp -implicitDefEqProofs only [qU,pure_encZ]; done) ?_ ?_|refine G9 (uG ?_ ?_) ?_ (by simp -implicitDefEqProofs only [qU,pure_encZ]; done) ?_ ?_|simp -implicitDefEqProofs only [Tq,qA,bN,bD,bO,aP,qU,D1,D4,D5,D3,D0,D6,reduceIte,reduceCtorEq,qI,E2,E1,cL,E0,bH,qZ,gN,iJ,F1,F4,F5,qC, *]
    all_goals first
      | exact G3 _
      | (rw [decide_eq_true (by omega)]; exact G3 _)
      | (refine H2 ?_; simp; done)
      | (refine H2 ?_; simp; omega)
      | omega
      | skip
  | true =>
  have hb8:=Ee (k:=100000000) hf (by omega)
  have hb7:=Ee (k:=10000000) hf (by omega)
  have hb5:=Ee (k:=100000) hf (by omega)
  have hba:Bd (oW s ⟨k,th,v,u⟩).1 (200+1):=HW (Ll hf)
  have hba8:Bd (oW s ⟨k,th,v,u⟩).1 100000000:=hba.mono (by omega)
  have hba7:Bd (oW s ⟨k,th,v,u⟩).1 10000000:=hba.mono (by omega)
  clear hba
  by_cases he:(oW s ⟨k,th,v,u⟩).2=0
  · have hck:bZ s=true:=(If he).2.1
    have hca:bZ (oW s ⟨k,th,v,u⟩).1=true:=qO.2 (KT (qO.1 hck))
    rcases Rs he with ht | ht
    · obtain rfl:k=11:=ht
      refine aI bP Dr (by simp [Tq]) fun hw _=>?_
      clear hw
      repeat' with_reducible first|refine aQ (fun h=>?_) (fun h=>?_)|refine bB (fun h=>?_) (fun h=>?_)|refine aF (fun h=>?_) (fun h=>?_)|refine aH (fun h=>?_) (fun h=>?_)|refine FN ?_ ?_ ?_ ?_ rfl ?_|refine aR ?_ ?_|refine bC ?_ ?_|refine bM ?_ ?_|refine IA ?_ ?_ ?_|refine L1 ?_ ?_|refine L2 ?_ ?_|refine L3 ?_ ?_ ?_ ?_|refine L4 ?_ ?_|refine L5 ?_ ?_ ?_ ?_ ?_|refine L6 ?_ ?_ ?_ ?_ ?_|refine G9 hA ?_ (by simp -implicitDefEqProofs only [qU,pure_encZ]; done) ?_ ?_|refine G9 (oX ) ?_ (by simp -implicitDefEqProofs only [qU,pure_encZ]; done) ?_ ?_|refine G9 (oY ?_) ?_ (by simp -implicitDefEqProofs only [qU,pure_encZ]; done) ?_ ?_|refine G9 (jK ?_) ?_ (by simp -implicitDefEqProofs only [qU,pure_encZ]; done) ?_ ?_|refine G9 (Ba ?_) ?_ (by simp -implicitDefEqProofs only [qU,pure_encZ]; done) ?_ ?_|refine G9 (uG ?_ ?_) ?_ (by simp -implicitDefEqProofs only [qU,pure_encZ]; done) ?_ ?_|simp -implicitDefEqProofs only [Tq,qA,bN,bD,bO,aP,qU,D1,D4,D5,D3,D0,D6,reduceIte,reduceCtorEq,qI,E2,E1,cL,E0,bH,qZ,gN,iJ,F1,F4,F5,qC, *]
      all_goals first
        | exact hb5
        | exact hb8
        | exact hb7
        | exact hba8
        | exact hba7
        | exact G3 _
        | (rw [decide_eq_true (by omega)]; exact G3 _)
        | (refine H2 ?_; simp; done)
        | (refine H2 ?_; simp; omega)
        | omega
        | skip
    · by_cases hk:k=11
      · subst hk
        refine aI bP Dr (by simp [Tq]) fun hw _=>?_
        clear hw
        repeat' with_reducible first|refine aQ (fun h=>?_) (fun h=>?_)|refine bB (fun h=>?_) (fun h=>?_)|refine aF (fun h=>?_) (fun h=>?_)|refine aH (fun h=>?_) (fun h=>?_)|refine FN ?_ ?_ ?_ ?_ rfl ?_|refine aR ?_ ?_|refine bC ?_ ?_|refine bM ?_ ?_|refine IA ?_ ?_ ?_|refine L1 ?_ ?_|refine L2 ?_ ?_|refine L3 ?_ ?_ ?_ ?_|refine L4 ?_ ?_|refine L5 ?_ ?_ ?_ ?_ ?_|refine L6 ?_ ?_ ?_ ?_ ?_|refine G9 hA ?_ (by simp -implicitDefEqProofs only [qU,pure_encZ]; done) ?_ ?_|refine G9 (oX ) ?_ (by simp -implicitDefEqProofs only [qU,pure_encZ]; done) ?_ ?_|refine G9 (oY ?_) ?_ (by simp -implicitDefEqProofs only [qU,pure_encZ]; done) ?_ ?_|refine G9 (jK ?_) ?_ (by simp -implicitDefEqProofs only [qU,pure_encZ]; done) ?_ ?_|refine G9 (Ba ?_) ?_ (by simp -implicitDefEqProofs only [qU,pure_encZ]; done) ?_ ?_|refine G9 (uG ?_ ?_) ?_ (by simp -implicitDefEqProofs only [qU,pure_encZ]; done) ?_ ?_|simp -implicitDefEqProofs only [Tq,qA,bN,bD,bO,aP,qU,D1,D4,D5,D3,D0,D6,reduceIte,reduceCtorEq,qI,E2,E1,cL,E0,bH,qZ,gN,iJ,F1,F4,F5,qC, *]
        all_goals first
          | exact hb5
          | exact hb8
          | exact hb7
          | exact hba8
          | exact hba7
          | exact G3 _
          | (rw [decide_eq_true (by omega)]; exact G3 _)
          | (refine H2 ?_; simp; done)
          | (refine H2 ?_; simp; omega)
          | omega
          | skip
      · refine aI bP Dr (by simp [Tq]) fun hw _=>?_
        clear hw
        repeat' with_reducible first|refine aQ (fun h=>?_) (fun h=>?_)|refine bB (fun h=>?_) (fun h=>?_)|refine aF (fun h=>?_) (fun h=>?_)|refine aH (fun h=>?_) (fun h=>?_)|refine FN ?_ ?_ ?_ ?_ rfl ?_|refine aR ?_ ?_|refine bC ?_ ?_|refine bM ?_ ?_|refine IA ?_ ?_ ?_|refine L1 ?_ ?_|refine L2 ?_ ?_|refine L3 ?_ ?_ ?_ ?_|refine L4 ?_ ?_|refine L5 ?_ ?_ ?_ ?_ ?_|refine L6 ?_ ?_ ?_ ?_ ?_|refine G9 hA ?_ (by simp -implicitDefEqProofs only [qU,pure_encZ]; done) ?_ ?_|refine G9 (oX ) ?_ (by simp -implicitDefEqProofs only [qU,pure_encZ]; done) ?_ ?_|refine G9 (oY ?_) ?_ (by simp -implicitDefEqProofs only [qU,pure_encZ]; done) ?_ ?_|refine G9 (jK ?_) ?_ (by simp -implicitDefEqProofs only [qU,pure_encZ]; done) ?_ ?_|refine G9 (Ba ?_) ?_ (by simp -implicitDefEqProofs only [qU,pure_encZ]; done) ?_ ?_|refine G9 (uG ?_ ?_) ?_ (by simp -implicitDefEqProofs only [qU,pure_encZ]; done) ?_ ?_|simp -implicitDefEqProofs only [Tq,qA,bN,bD,bO,aP,qU,D1,D4,D5,D3,D0,D6,reduceIte,reduceCtorEq,qI,E2,E1,cL,E0,bH,qZ,gN,iJ,F1,F4,F5,qC, *]
        all_goals first
          | exact hb5
          | exact hb8
          | exact hb7
          | exact hba8
          | exact hba7
          | exact G3 _
          | (rw [decide_eq_true (by omega)]; exact G3 _)
          | (refine H2 ?_; simp; done)
          | (refine H2 ?_; simp; omega)
          | omega
          | skip
  · have hs:=Gi he
    refine aI bP Dr (by simp [Tq]) fun hw _=>?_
    clear hw
    repeat' with_reducible first|refine aQ (fun h=>?_) (fun h=>?_)|refine bB (fun h=>?_) (fun h=>?_)|refine aF (fun h=>?_) (fun h=>?_)|refine aH (fun h=>?_) (fun h=>?_)|refine FN ?_ ?_ ?_ ?_ rfl ?_|refine aR ?_ ?_|refine bC ?_ ?_|refine bM ?_ ?_|refine IA ?_ ?_ ?_|refine L1 ?_ ?_|refine L2 ?_ ?_|refine L3 ?_ ?_ ?_ ?_|refine L4 ?_ ?_|refine L5 ?_ ?_ ?_ ?_ ?_|refine L6 ?_ ?_ ?_ ?_ ?_|refine G9 hA ?_ (by simp -implicitDefEqProofs only [qU,pure_encZ]; done) ?_ ?_|refine G9 (oX ) ?_ (by simp -implicitDefEqProofs only [qU,pure_encZ]; done) ?_ ?_|refine G9 (oY ?_) ?_ (by simp -implicitDefEqProofs only [qU,pure_encZ]; done) ?_ ?_|refine G9 (jK ?_) ?_ (by simp -implicitDefEqProofs only [qU,pure_encZ]; done) ?_ ?_|refine G9 (Ba ?_) ?_ (by simp -implicitDefEqProofs only [qU,pure_encZ]; done) ?_ ?_|refine G9 (uG ?_ ?_) ?_ (by simp -implicitDefEqProofs only [qU,pure_encZ]; done) ?_ ?_|simp -implicitDefEqProofs only [Tq,qA,bN,bD,bO,aP,qU,D1,D4,D5,D3,D0,D6,reduceIte,reduceCtorEq,qI,E2,E1,cL,E0,bH,qZ,gN,iJ,F1,F4,F5,qC, *]
    all_goals first
      | exact hb5
      | exact hb8
      | exact hb7
      | exact hba8
      | exact hba7
      | exact G3 _
      | (rw [decide_eq_true (by omega)]; exact G3 _)
      | (refine H2 ?_; simp; done)
      | (refine H2 ?_; simp; omega)
      | omega
      | skip

end Go.Sak
