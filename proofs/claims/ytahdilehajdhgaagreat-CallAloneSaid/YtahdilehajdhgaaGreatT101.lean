/- Part T101 of the proofs about the program: Xd, Pd, Xe, Pe. Conditions: none. -/
import Derived.Test.YtahdilehajdhgaaGreatT03
open Bool renaming and_eq_true→D9,not_eq_true'→M8,or_eq_true→H9
open List renaming all_eq_true→G4,filter_append→Z1,filter_cons→R8,foldl_append→S8,foldl_cons→N7,getD_eq_getElem?_getD→E6,getElem?_eq_getElem→F9,getElem?_take→J6,getElem_of_mem→Q3,map_append→J5,mem_cons_of_mem→H8,mem_iff_getElem?→X4,mem_map→G5,mem_range→R2,nodup_append→U2,pairwise_iff_getElem→S6,pairwise_map→U3,take_add_one→U4
open Nat renaming le_refl→G1
namespace Go.Sak
open Go Go.RowKit
structure Due where
  tm:Int
  id:Int
  deriving DecidableEq,Inhabited
def cC (d:Due):List AV:=[.int .i64 d.tm,.int .i64 d.id]
theorem bK (x:Due):pures (cC x)=true:=rfl
def gA (a b:Due):Bool:=decide (a.tm<b.tm) || (decide (a.tm=b.tm) && decide (a.id<b.id))
def sO (n:Int):Bool:=decide (0≤n) && decide (n≤1099511627776)
def Rf (n:Int):Bool:=decide (0≤n) && decide (n<16)
def kQ (l:List Due) (i j:Nat):List Due:=(l.set i (l.getD j default)).set j (l.getD i default)
theorem gG (l:List Due) (i j:Nat):(kQ l i j).length=l.length:=by simp [kQ]
def Gr (l:List Due) (j:Nat):List Due:=if _h:(j - 1) / 2≠j∧gA (l.getD j default) (l.getD ((j - 1) / 2) default)=true then Gr (kQ l ((j - 1) / 2) j) ((j - 1) / 2) else l
termination_by j
decreasing_by omega
def qS (n:Nat) (l:List Due) (i:Nat):Nat:=if 2 * i+2<n∧gA (l.getD (2 * i+2) default) (l.getD (2 * i+1) default)=true then 2 * i+2 else 2 * i+1
theorem FD (n:Nat) (l:List Due) (i:Nat):i<qS n l i:=by unfold qS; split <;> omega
theorem Gq {n:Nat} {l:List Due} {i:Nat} (h:2 * i+1<n):qS n l i<n:=by unfold qS; split <;> omega
def iT (n:Nat) (l:List Due) (i:Nat):List Due×Nat:=if _h:2 * i+1<n then (if gA (l.getD (qS n l i) default) (l.getD i default)=true then iT n (kQ l i (qS n l i)) (qS n l i) else (l,i)) else (l,i)
termination_by n - i
decreasing_by have:=FD n l i; omega
def HZ (n:Nat):Nat→List Due→List Due
  | 0,l=>l
  | k+1,l=>HZ n k (iT n l k).1
def sS (l:List Due):List Due:=HZ l.length (l.length / 2) l
def lF (l:List Due):List Due:=(iT (l.length - 1) (kQ l 0 (l.length - 1)) 0).1
def Dj:Nat→List Due→List Due
  | 0,_=>[]
  | k+1,l=>(lF l).getD k default :: Dj k ((lF l).take k)
theorem pK (n:Nat) (l:List Due) (i:Nat):(iT n l i).1.length=l.length:=by
  fun_induction iT n l i with
  | case1 l i h1 h2 ih=>rw [ih,gG]
  | case2=>rfl
  | case3=>rfl
theorem FG (l:List Due) (j:Nat):(Gr l j).length=l.length:=by
  fun_induction Gr l j with
  | case1 l j h ih=>rw [ih,gG]
  | case2=>rfl
theorem Ny (n:Nat):∀ (k:Nat) (l:List Due),(HZ n k l).length=l.length
  | 0,_=>rfl
  | k+1,l=>(Ny n k _).trans (pK n l k)
theorem yL (l:List Due):(sS l).length=l.length:=Ny _ _ _
theorem wR (l:List Due):(lF l).length=l.length:=(pK _ _ _).trans (gG _ _ _)
def mZ:List Due→Int→Option (Nat×Due)
  | [],_=>none
  | d :: l,k=>if k=d.id then some (0,d) else (mZ l k).map fun r=>(r.1+1,r.2)
def oZ (l:List Due) (d:Due):List Due:=match mZ l d.id with
  | some r=>l.set r.1 d
  | none=>l ++ [d]
def Hy (l:List Due) (k:Int):List Due:=match mZ l k with
  | some r=>l.eraseIdx r.1
  | none=>l
def Rb (l:List Due) (k:Int):Bool:=(mZ l k).isSome
def KQ (l:List Due) (k:Int):Due:=match mZ l k with
  | some r=>r.2
  | none=>⟨0,0⟩
def iG (l:List Due):List Due:=l.foldl oZ []
theorem Ib (l:List Due) (d:Due):(oZ l d).length≤l.length+1:=by
  unfold oZ; split <;> simp
theorem yF:∀ (l m:List Due),(l.foldl oZ m).length≤m.length+l.length
  | [],m=>by simp
  | d :: l,m=>by
    have:=yF l (oZ m d)
    have:=Ib m d
    simp only [N7,List.length_cons]; omega
theorem Wi (l:List Due) (k:Int):(Hy l k).length≤l.length:=by
  unfold Hy; split
  · rw [List.length_eraseIdx]; split <;> omega
  · exact G1 _
theorem EN {l:List Due} {i:Nat} (h:i<l.length):oZ (iG (l.take i)) (l.getD i default)=iG (l.take (i+1)):=by
  unfold iG
  rw [U4,S8,F9 h,E6,F9 h]; rfl
def rR (l:List Due) (i:Nat):Bool:=sO (l.getD i default).tm && Rf (l.getD i default).id && !((l.take i).any fun x=>decide (x.id=(l.getD i default).id)) && (decide (i=0) || gA (l.getD (i - 1) default) (l.getD i default))
def dP (l:List Due):Bool:=(List.range l.length).all (rR l)
theorem Lg {l:List Due} (h:∀ i,i<l.length→rR l i=true):dP l=true:=by
  simp only [dP,G4,R2]; exact h
theorem Lf {l:List Due} {i:Nat} (hi:i<l.length) (h:rR l i=false):dP l=false:=by
  cases hc:dP l with
  | false=>rfl
  | true =>
    simp only [dP,G4,R2] at hc
    rw [hc i hi] at h; cases h
set_option linter.unusedVariables false
set_option linter.unusedSimpArgs false
def zF (a b:Due):Bool:=!gA b a
theorem qJ {a b:Due}:zF a b=true↔a.tm<b.tm∨(a.tm=b.tm∧a.id≤b.id):=by
  simp only [zF,gA,M8,Bool.or_eq_false_iff,Bool.and_eq_false_iff,decide_eq_false_iff_not]
  omega
theorem uV {a b:Due}:gA a b=true↔a.tm<b.tm∨(a.tm=b.tm∧a.id<b.id):=by
  simp only [gA,H9,D9,decide_eq_true_eq]
theorem Hx {a b:Due}:gA a b=false↔zF b a=true:=by simp [zF]
theorem Bi (a:Due):zF a a=true:=by rw [qJ]; omega
theorem yE (a b c:Due) (h:zF a b=true) (k:zF b c=true):zF a c=true:=by rw [qJ] at *; omega
theorem Rr (a b:Due):(zF a b || zF b a)=true:=by
  rw [H9,qJ,qJ]; omega
theorem Ia {a b:Due} (h:zF a b=true) (k:zF b a=true):a=b:=by
  rw [qJ] at *; cases a; cases b; simp at *; omega
theorem yD {a b:Due} (h:gA a b=true):zF a b=true:=by rw [qJ]; rw [uV] at h; omega
def jF (l:List Due):List Due:=l.mergeSort zF
theorem nU (l:List Due):(jF l).Perm l:=List.mergeSort_perm l zF
theorem Bk (l:List Due):(jF l).Pairwise (fun a b=>zF a b=true):=List.pairwise_mergeSort yE Rr l
theorem Bj {l m:List Due} (h:m.Perm l) (hp:m.Pairwise (fun a b=>zF a b=true)):m=jF l :=
  List.Perm.eq_of_pairwise (fun a b _ _ h k=>Ia h k) hp (Bk l) (h.trans (nU l).symm)
theorem Ic {l m:List Due} (h:l.Perm m):jF l=jF m:=Bj ((nU l).trans h) (Bk l)

theorem tU {l:List Due} {i j:Nat} (hi:i<l.length) (hj:j<l.length) (c:Nat) :
    (kQ l i j).getD c default=if c=j then l.getD i default else if c=i then l.getD j default else l.getD c default:=by
  unfold kQ
  simp only [E6,List.getElem?_set,List.length_set]
  by_cases h1:c=j
  · subst h1; simp [hj]
  · rw [if_neg (fun e=>h1 e.symm),if_neg h1]
    by_cases h2:c=i
    · subst h2; simp [hi]
    · rw [if_neg (fun e=>h2 e.symm),if_neg h2]
theorem uZ {l:List Due} {i j:Nat} (hi:i<l.length) (hj:j<l.length):(kQ l i j).Perm l:=by
  have:=List.set_set_perm (as:=l) hi hj
  unfold kQ
  rw [show l.getD j default=l[j] from by simp [hj],show l.getD i default=l[i] from by simp [hi]]
  exact this
theorem Bz {n:Nat} {l:List Due} {i:Nat} (hn:n≤l.length):(iT n l i).1.Perm l:=by
  fun_induction iT n l i with
  | case1 l i h1 h2 ih =>
    have hk:=Gq (l:=l) h1
    exact (ih (by rw [gG]; exact hn)).trans (uZ (by omega) (by omega))
  | case2=>exact .refl _
  | case3=>exact .refl _
theorem Rw {n:Nat} {l:List Due} {i:Nat} (hn:n≤l.length) {c:Nat} (hc:n≤c):(iT n l i).1.getD c default=l.getD c default:=by
  fun_induction iT n l i with
  | case1 l i h1 h2 ih =>
    have hk:=Gq (l:=l) h1
    rw [ih (by rw [gG]; exact hn),tU (by omega) (by omega),if_neg (by omega),if_neg (by omega)]
  | case2=>rfl
  | case3=>rfl
theorem Xl {l:List Due} {j:Nat} (hj:j<l.length):(Gr l j).Perm l:=by
  fun_induction Gr l j with
  | case1 l j h ih=>exact (ih (by rw [gG]; omega)).trans (uZ (by omega) hj)
  | case2=>exact .refl _

def ZT (l:List Due) (n k i:Nat):Prop:=∀ c,0<c→c<n→k≤(c - 1) / 2→(c - 1) / 2≠i→zF (l.getD ((c - 1) / 2) default) (l.getD c default)=true
def ZS (l:List Due) (n k i:Nat):Prop:=∀ c,0<c→c<n→(c - 1) / 2=i→0<i→k≤(i - 1) / 2→zF (l.getD ((i - 1) / 2) default) (l.getD c default)=true
def Hp (l:List Due) (n k:Nat):Prop:=∀ c,0<c→c<n→k≤(c - 1) / 2→zF (l.getD ((c - 1) / 2) default) (l.getD c default)=true
theorem Ir {n:Nat} {l:List Due} {i c:Nat} (hc:c<n) (h:c=2 * i+1∨c=2 * i+2):zF (l.getD (qS n l i) default) (l.getD c default)=true:=by
  unfold qS
  split
  · rename_i h1
    rcases h with rfl | rfl
    · exact yD h1.2
    · exact Bi _
  · rename_i h1
    rcases h with rfl | rfl
    · exact Bi _
    · refine Hx.1 ?_
      cases ha:gA (l.getD (2 * i+2) default) (l.getD (2 * i+1) default) with
      | false=>rfl
      | true=>exact absurd ⟨hc,ha⟩ h1
theorem FE (n:Nat) (l:List Due) (i:Nat):qS n l i=2 * i+1∨qS n l i=2 * i+2:=by unfold qS; split <;> simp
theorem Ip {n:Nat} {l:List Due} {i k:Nat} (hn:n≤l.length) (hk:k≤i) (h1:ZT l n k i) (h2:ZS l n k i):Hp (iT n l i).1 n k:=by
  fun_induction iT n l i with
  | case1 l i q1 q2 ih =>
    have q3:=Gq (l:=l) q1
    have q4:=FE n l i
    have q5:=@Ir n l i
    generalize qS n l i=j at *
    have hg:=tU (l:=l) (i:=i) (j:=j) (by omega) (by omega)
    refine ih (by rw [gG]; exact hn) (by omega) (fun c c1 c2 c3 c4=>?_) (fun c c1 c2 c3 c4 c5=>?_)
    · rw [hg,hg,if_neg c4]
      by_cases e:(c - 1) / 2=i
      · rw [if_pos e]
        by_cases e2:c=j
        · rw [if_pos e2]; exact yD q2
        · rw [if_neg e2,if_neg (by omega)]
          exact q5 c2 (by omega)
      · rw [if_neg e,if_neg (by rintro rfl; omega)]
        by_cases e2:c=i
        · rw [if_pos e2]; subst e2
          exact h2 j (by omega) q3 (by omega) c1 c3
        · rw [if_neg e2]; exact h1 c c1 c2 c3 e
    · rw [hg,hg,show (j - 1) / 2=i from by omega,if_neg (by omega),if_pos rfl,if_neg (by omega),if_neg (by omega),← c3]
      exact h1 c c1 c2 (by omega) (by omega)
  | case2 l i q1 q2 =>
    intro c c1 c2 c3
    by_cases e:(c - 1) / 2=i
    · rw [e]
      exact yE _ _ _ (Hx.1 (by simpa using q2)) (Ir c2 (by omega))
    · exact h1 c c1 c2 c3 e
  | case3 l i q1 =>
    intro c c1 c2 c3
    exact h1 c c1 c2 c3 (by omega)
theorem Xj {n:Nat}:∀ (k:Nat) (l:List Due),n≤l.length→Hp l n k→Hp (HZ n k l) n 0
  | 0,_,_,h=>h
  | k+1,l,hn,h=>Xj k _ (by rw [pK]; exact hn) (Ip hn (G1 _) (fun c c1 c2 c3 c4=>h c c1 c2 (by omega)) (fun c c1 c2 c3 c4 c5=>by omega))
theorem Xk {l:List Due}:Hp (sS l) l.length 0:=Xj _ _ (G1 _) (fun c c1 c2 c3=>by omega)
theorem Iq {n:Nat}:∀ (k:Nat) (l:List Due),n≤l.length→(HZ n k l).Perm l
  | 0,_,_=>.refl _
  | k+1,l,hn=>(Iq k _ (by rw [pK]; exact hn)).trans (Bz hn)
theorem LA {l:List Due} {n:Nat} (h:Hp l n 0):∀ c,c<n→zF (l.getD 0 default) (l.getD c default)=true:=by
  intro c
  induction c using Nat.strongRecOn with
  | ind c ih =>
    intro hc
    by_cases e:c=0
    · subst e; exact Bi _
    · exact yE _ _ _ (ih ((c - 1) / 2) (by omega) (by omega)) (h c (by omega) hc (by omega))
theorem Ry {l:List Due} {n:Nat} (hl:l.length=n+1):(lF l).Perm l:=by
  unfold lF
  rw [hl]
  exact (Bz (by rw [gG]; omega)).trans (uZ (by omega) (by omega))
theorem Rx {l:List Due} {n:Nat} (hl:l.length=n+1):(lF l).getD n default=l.getD 0 default:=by
  unfold lF
  rw [hl,Rw (by rw [gG]; omega) (by omega),tU (by omega) (by omega)]
  simp
theorem FF {l:List Due} {n:Nat} (hl:l.length=n+1) (h:Hp l (n+1) 0):Hp ((lF l).take n) n 0:=by
  have h1:Hp (lF l) n 0:=by
    unfold lF
    rw [hl]
    have hg:=tU (l:=l) (i:=0) (j:=n) (by omega) (by omega)
    refine Ip (by rw [gG]; omega) (G1 _) (fun c c1 c2 c3 c4=>?_) (fun c c1 c2 c3 c4 c5=>by omega)
    simp only [Nat.add_sub_cancel] at c2 ⊢
    rw [hg,hg,if_neg (by omega),if_neg (by omega),if_neg (by omega),if_neg (by omega)]
    exact h c c1 (by omega) c3
  intro c c1 c2 c3
  have:=h1 c c1 c2 c3
  have ht:∀ j,j<n→((lF l).take n).getD j default=(lF l).getD j default:=fun j hj=>by
    simp only [E6,J6,if_pos hj]
  rw [ht _ (by omega),ht _ c2]; exact this
theorem Nw:∀ (n:Nat) (l:List Due),l.length=n→Hp l n 0→(Dj n l).Perm l∧(Dj n l).Pairwise (fun a b=>zF a b=true)
  | 0,l,hl,_=>by rw [List.length_eq_zero_iff.1 hl]; exact ⟨.refl _,.nil⟩
  | n + 1,l,hl,h=>by
    have hlt:(lF l).length=n+1:=by rw [wR]; exact hl
    obtain ⟨h1,h2⟩:=Nw n ((lF l).take n) (by rw [List.length_take,hlt]; omega) (FF hl h)
    have hs:(lF l).take n ++ [(lF l).getD n default]=lF l:=by
      rw [show (lF l).getD n default=(lF l)[n] from by simp [hlt],List.take_append_getElem]
      exact List.take_of_length_le (by omega)
    have hp:((lF l).getD n default :: Dj n ((lF l).take n)).Perm l:=by
      refine ((List.Perm.cons _ h1).trans ?_).trans (Ry hl)
      conv=>rhs; rw [← hs]
      exact (List.perm_append_comm (l₁:=[_]))
    refine ⟨hp,List.pairwise_cons.2 ⟨fun a ha=>?_,h2⟩⟩
    rw [Rx hl]
    have ha2:a∈l:=hp.mem_iff.1 (H8 _ ha)
    obtain ⟨c,hc,rfl⟩:=Q3 ha2
    have:=LA h c (by omega)
    rwa [show l.getD c default=l[c] from by simp [hc]] at this
theorem Ln (l:List Due):Dj l.length (sS l)=jF l:=by
  obtain ⟨h1,h2⟩:=Nw l.length (sS l) (yL l) Xk
  exact Bj (h1.trans (Iq _ _ (G1 _))) h2
def pA (l:List Due) (d:Due):List Due×Int:=if dP l=false then (l,40) else if sO d.tm=false then (l,50) else if Rf d.id=false then (l,40) else if Rb (iG l) d.id=true then (l,60) else (jF (oZ (iG l) d),0)
def fC (l:List Due) (now:Int):List Int:=(l.filter fun d=>decide (d.tm≤now)).map (·.id)
def iY (l m:List Due) (now:Int):List Due:=(fC l now).foldl Hy m
def kE (l:List Due) (now:Int):List Int×List Due:=if dP l=false then ([],l) else (fC l now,jF (iY l (iG l) now))
theorem Jb (l m:List Due) (now:Int):(iY l m now).length≤m.length:=by
  unfold iY
  generalize fC l now=ks
  induction ks generalizing m with
  | nil=>exact G1 _
  | cons k ks ih=>exact Nat.le_trans (ih (Hy m k)) (Wi m k)
theorem zI (l:List Due) (now:Int):(fC l now).length≤l.length:=by
  unfold fC; rw [List.length_map]; exact List.length_filter_le _ _
theorem El {l:List Due} {i:Nat} {now:Int} (h:i<l.length) (k:(l.getD i default).tm≤now):fC (l.take (i+1)) now=fC (l.take i) now ++ [(l.getD i default).id]:=by
  unfold fC
  rw [E6,F9 h] at k ⊢
  rw [U4,Z1,J5,F9 h]
  simp only [Option.toList_some,R8,Option.getD_some] at k ⊢
  rw [if_pos (by simpa using k)]; rfl
theorem Ek {l:List Due} {i:Nat} {now:Int} (h:i<l.length) (k:¬ (l.getD i default).tm≤now):fC (l.take (i+1)) now=fC (l.take i) now:=by
  unfold fC
  rw [E6,F9 h] at k
  rw [U4,Z1,J5,F9 h]
  simp only [Option.toList_some,R8,Option.getD_some] at k ⊢
  rw [if_neg (by simpa using k)]; simp
theorem Sd {l m:List Due} {i:Nat} {now:Int} (h:i<l.length) (k:(l.getD i default).tm≤now):Hy (iY (l.take i) m now) (l.getD i default).id=iY (l.take (i+1)) m now:=by
  unfold iY; rw [El h k,S8]; rfl
theorem Sc {l m:List Due} {i:Nat} {now:Int} (h:i<l.length) (k:¬ (l.getD i default).tm≤now):iY (l.take (i+1)) m now=iY (l.take i) m now:=by
  unfold iY; rw [Ek h k]
set_option linter.unusedSimpArgs false
theorem nT {k:Int}:∀ {l:List Due},(∀ x,x∈l→x.id≠k)→mZ l k=none
  | [],_=>rfl
  | d :: l,h=>by
    simp only [mZ]
    rw [if_neg (fun e=>h d (List.mem_cons_self ..) e.symm),nT (fun x hx=>h x (H8 _ hx))]
    rfl
theorem Bh {k:Int}:∀ {l:List Due},(∃ x,x∈l∧x.id=k)→∃ r,mZ l k=some r
  | [],⟨x,hx,_⟩=>by cases hx
  | d :: l,⟨x,hx,e⟩=>by
    simp only [mZ]
    by_cases h:k=d.id
    · exact ⟨_,if_pos h⟩
    · rw [if_neg h]
      rcases List.mem_cons.1 hx with rfl | hx
      · exact absurd e.symm h
      · obtain ⟨r,hr⟩:=Bh ⟨x,hx,e⟩
        rw [hr]; exact ⟨_,rfl⟩
theorem Hz {l:List Due} {k:Int}:Rb l k=true↔∃ x,x∈l∧x.id=k:=by
  unfold Rb
  constructor
  · intro h
    refine Classical.byContradiction fun hn=>?_
    rw [nT (fun x hx e=>hn ⟨x,hx,e⟩)] at h
    cases h
  · intro h
    obtain ⟨r,hr⟩:=Bh h
    rw [hr]; rfl
theorem Nu:∀ (l m:List Due),((m ++ l).map (·.id)).Nodup→l.foldl oZ m=m ++ l
  | [],m,_=>by simp
  | d :: l,m,h=>by
    have h2:∀ x,x∈m→x.id≠d.id:=fun x hx e=>by
      rw [J5,U2] at h
      exact h.2.2 x.id (G5.2 ⟨x,hx,rfl⟩) d.id (by simp) e
    have h3:oZ m d=m ++ [d]:=by unfold oZ; rw [nT h2]
    rw [N7,h3,Nu l (m ++ [d]) (by simpa using h)]
    simp
theorem Le {l:List Due} (h:(l.map (·.id)).Nodup):iG l=l:=(Nu l [] (by simpa using h)).trans (by simp)
theorem Gg {a b c:Due} (h:gA a b=true) (k:gA b c=true):gA a c=true:=by
  rw [uV] at *; omega
theorem Ag {l:List Due} {i:Nat}:rR l i=true↔sO (l.getD i default).tm=true∧Rf (l.getD i default).id=true∧(∀ x,x∈l.take i→x.id≠(l.getD i default).id)∧(i=0∨gA (l.getD (i - 1) default) (l.getD i default)=true):=by
  simp only [rR,D9,M8,H9,decide_eq_true_eq,List.any_eq_false,and_assoc]
theorem tT {l:List Due} {i:Nat} (h:i<l.length):l.getD i default=l[i]:=by simp [h]
theorem kD {l:List Due}:dP l=true↔(∀ x,x∈l→sO x.tm=true∧Rf x.id=true)∧(l.map (·.id)).Nodup∧l.Pairwise (fun a b=>gA a b=true):=by
  have h0:dP l=true↔∀ i,i<l.length→rR l i=true:=by
    simp only [dP,G4,R2]
  rw [h0]
  constructor
  · intro h
    refine ⟨fun x hx=>?_,?_,?_⟩
    · obtain ⟨i,hi,rfl⟩:=Q3 hx
      have:=Ag.1 (h i hi)
      rw [tT hi] at this
      exact ⟨this.1,this.2.1⟩
    · refine U3.2 (S6.2 fun i j hi hj hij=>?_)
      have:=(Ag.1 (h j hj)).2.2.1 l[i] (by
        refine X4.2 ⟨i,?_⟩
        rw [J6,if_pos hij,F9 hi])
      rwa [tT hj] at this
    · rw [S6]
      intro i j hi hj hij
      induction j with
      | zero=>omega
      | succ j ih =>
        have h1:=(Ag.1 (h (j+1) hj)).2.2.2
        rcases h1 with h1 | h1
        · omega
        · rw [tT hj,Nat.add_sub_cancel,tT (by omega)] at h1
          by_cases e:i=j
          · subst e; exact h1
          · exact Gg (ih (by omega) (by omega)) h1
  · rintro ⟨h1,h2,h3⟩ i hi
    rw [Ag,tT hi]
    obtain ⟨q1,q2⟩:=h1 l[i] (List.getElem_mem hi)
    refine ⟨q1,q2,fun x hx e=>?_,?_⟩
    · obtain ⟨j,hj⟩:=X4.1 hx
      rw [J6] at hj
      split at hj
      · rename_i hji
        obtain ⟨hj1,hj2⟩:=List.getElem?_eq_some_iff.1 hj
        have:=S6.1 (U3.1 h2) j i hj1 hi hji
        rw [hj2] at this
        exact this e
      · cases hj
    · by_cases e:i=0
      · exact .inl e
      · right
        rw [tT (by omega)]
        exact S6.1 h3 (i - 1) i (by omega) hi (by omega)
theorem Lh {l:List Due} (h:dP l=true):iG l=l:=Le (kD.1 h).2.1
theorem Lz {l:List Due} (h1:∀ x,x∈l→sO x.tm=true∧Rf x.id=true) (h2:(l.map (·.id)).Nodup):dP (jF l)=true:=by
  have hp:=nU l
  have hn:((jF l).map (·.id)).Nodup:=(hp.map _).nodup_iff.2 h2
  refine kD.2 ⟨fun x hx=>h1 x (hp.mem_iff.1 hx),hn,?_⟩
  have hs:=Bk l
  have hd:(jF l).Pairwise (fun a b=>a.id≠b.id):=U3.1 hn
  refine (hs.and hd).imp fun {a b} h=>?_
  obtain ⟨h,k⟩:=h
  rw [qJ] at h; rw [uV]; omega
theorem Yv {l:List Due} {d:Due} (h:dP l=true) (ht:sO d.tm=true) (hi:Rf d.id=true) (hn:∀ x,x∈l→x.id≠d.id):pA l d=(jF (l ++ [d]),0)∧dP (jF (l ++ [d]))=true:=by
  obtain ⟨h1,h2,h3⟩:=kD.1 h
  have hb:=Lh h
  refine ⟨?_,Lz (fun x hx=>?_) ?_⟩
  · unfold pA
    rw [if_neg (by rw [h]; decide),if_neg (by rw [ht]; decide),if_neg (by rw [hi]; decide),hb,if_neg (fun hh=>by
      obtain ⟨x,hx,e⟩:=Hz.1 hh
      exact hn x hx e)]
    unfold oZ
    rw [nT hn]
  · rcases List.mem_append.1 hx with hx | hx
    · exact h1 x hx
    · rw [List.mem_singleton.1 hx]; exact ⟨ht,hi⟩
  · rw [J5,U2]
    refine ⟨h2,by simp,fun a ha b hb=>?_⟩
    obtain ⟨x,hx,rfl⟩:=G5.1 ha
    simp at hb; subst hb
    exact hn x hx
end Go.Sak
