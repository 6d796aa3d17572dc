/- Part T101 of the proofs about the program: Xd, Pd, Xe, Pe. Conditions: none. -/
import Derived.Test.YtahdilehajdhgaaGreatT03
open Bool renaming and_eq_true→E0,not_eq_true'→M9,or_eq_true→I1
open List renaming all_eq_true→G5,filter_append→Z2,filter_cons→R9,foldl_append→S9,foldl_cons→N8,getD_eq_getElem?_getD→E7,getElem?_eq_getElem→G0,getElem?_take→J7,getElem_of_mem→Q4,map_append→J6,mem_cons_of_mem→H9,mem_iff_getElem?→X5,mem_map→G6,mem_range→R3,nodup_append→U3,pairwise_iff_getElem→S7,pairwise_map→U4,take_add_one→U5
open Nat renaming le_refl→G2
namespace Go.Sak
open Go Go.RowKit
structure Due where
  tm:Int
  id:Int
  deriving DecidableEq,Inhabited
def cC (d:Due):List AV:=[.int .i64 d.tm,.int .i64 d.id]
theorem bK (x:Due):pures (cC x)=true:=rfl
def gA (a b:Due):Bool:=decide (a.tm<b.tm) || (decide (a.tm=b.tm) && decide (a.id<b.id))
def sP (n:Int):Bool:=decide (0≤n) && decide (n≤1099511627776)
def Rr (n:Int):Bool:=decide (0≤n) && decide (n<16)
def kR (l:List Due) (i j:Nat):List Due:=(l.set i (l.getD j default)).set j (l.getD i default)
theorem gH (l:List Due) (i j:Nat):(kR l i j).length=l.length:=by simp [kR]
def Gs (l:List Due) (j:Nat):List Due:=if _h:(j - 1) / 2≠j∧gA (l.getD j default) (l.getD ((j - 1) / 2) default)=true then Gs (kR l ((j - 1) / 2) j) ((j - 1) / 2) else l
termination_by j
decreasing_by omega
def qV (n:Nat) (l:List Due) (i:Nat):Nat:=if 2 * i+2<n∧gA (l.getD (2 * i+2) default) (l.getD (2 * i+1) default)=true then 2 * i+2 else 2 * i+1
theorem FE (n:Nat) (l:List Due) (i:Nat):i<qV n l i:=by unfold qV; split <;> omega
theorem Gr {n:Nat} {l:List Due} {i:Nat} (h:2 * i+1<n):qV n l i<n:=by unfold qV; split <;> omega
def iU (n:Nat) (l:List Due) (i:Nat):List Due×Nat:=if _h:2 * i+1<n then (if gA (l.getD (qV n l i) default) (l.getD i default)=true then iU n (kR l i (qV n l i)) (qV n l i) else (l,i)) else (l,i)
termination_by n - i
decreasing_by have:=FE n l i; omega
def IB (n:Nat):Nat→List Due→List Due
  | 0,l=>l
  | k+1,l=>IB n k (iU n l k).1
def sT (l:List Due):List Due:=IB l.length (l.length / 2) l
def lG (l:List Due):List Due:=(iU (l.length - 1) (kR l 0 (l.length - 1)) 0).1
def Dk:Nat→List Due→List Due
  | 0,_=>[]
  | k+1,l=>(lG l).getD k default :: Dk k ((lG l).take k)
theorem pL (n:Nat) (l:List Due) (i:Nat):(iU n l i).1.length=l.length:=by
  fun_induction iU n l i with
  | case1 l i h1 h2 ih=>rw [ih,gH]
  | case2=>rfl
  | case3=>rfl
theorem FH (l:List Due) (j:Nat):(Gs l j).length=l.length:=by
  fun_induction Gs l j with
  | case1 l j h ih=>rw [ih,gH]
  | case2=>rfl
theorem Nz (n:Nat):∀ (k:Nat) (l:List Due),(IB n k l).length=l.length
  | 0,_=>rfl
  | k+1,l=>(Nz n k _).trans (pL n l k)
theorem yM (l:List Due):(sT l).length=l.length:=Nz _ _ _
theorem wS (l:List Due):(lG l).length=l.length:=(pL _ _ _).trans (gH _ _ _)
def nA:List Due→Int→Option (Nat×Due)
  | [],_=>none
  | d :: l,k=>if k=d.id then some (0,d) else (nA l k).map fun r=>(r.1+1,r.2)
def pA (l:List Due) (d:Due):List Due:=match nA l d.id with
  | some r=>l.set r.1 d
  | none=>l ++ [d]
def Hz (l:List Due) (k:Int):List Due:=match nA l k with
  | some r=>l.eraseIdx r.1
  | none=>l
def Rf (l:List Due) (k:Int):Bool:=(nA l k).isSome
def KR (l:List Due) (k:Int):Due:=match nA l k with
  | some r=>r.2
  | none=>⟨0,0⟩
def iH (l:List Due):List Due:=l.foldl pA []
theorem Ic (l:List Due) (d:Due):(pA l d).length≤l.length+1:=by
  unfold pA; split <;> simp
theorem yG:∀ (l m:List Due),(l.foldl pA m).length≤m.length+l.length
  | [],m=>by simp
  | d :: l,m=>by
    have:=yG l (pA m d)
    have:=Ic m d
    simp only [N8,List.length_cons]; omega
theorem Wj (l:List Due) (k:Int):(Hz l k).length≤l.length:=by
  unfold Hz; split
  · rw [List.length_eraseIdx]; split <;> omega
  · exact G2 _
theorem EO {l:List Due} {i:Nat} (h:i<l.length):pA (iH (l.take i)) (l.getD i default)=iH (l.take (i+1)):=by
  unfold iH
  rw [U5,S9,G0 h,E7,G0 h]; rfl
def rS (l:List Due) (i:Nat):Bool:=sP (l.getD i default).tm && Rr (l.getD i default).id && !((l.take i).any fun x=>decide (x.id=(l.getD i default).id)) && (decide (i=0) || gA (l.getD (i - 1) default) (l.getD i default))
def dP (l:List Due):Bool:=(List.range l.length).all (rS l)
theorem Lh {l:List Due} (h:∀ i,i<l.length→rS l i=true):dP l=true:=by
  simp only [dP,G5,R3]; exact h
theorem Lg {l:List Due} {i:Nat} (hi:i<l.length) (h:rS l i=false):dP l=false:=by
  cases hc:dP l with
  | false=>rfl
  | true =>
    simp only [dP,G5,R3] at hc
    rw [hc i hi] at h; cases h
set_option linter.unusedVariables false
set_option linter.unusedSimpArgs false
def zG (a b:Due):Bool:=!gA b a
theorem qL {a b:Due}:zG a b=true↔a.tm<b.tm∨(a.tm=b.tm∧a.id≤b.id):=by
  simp only [zG,gA,M9,Bool.or_eq_false_iff,Bool.and_eq_false_iff,decide_eq_false_iff_not]
  omega
theorem uW {a b:Due}:gA a b=true↔a.tm<b.tm∨(a.tm=b.tm∧a.id<b.id):=by
  simp only [gA,I1,E0,decide_eq_true_eq]
theorem Hy {a b:Due}:gA a b=false↔zG b a=true:=by simp [zG]
theorem Bj (a:Due):zG a a=true:=by rw [qL]; omega
theorem yF (a b c:Due) (h:zG a b=true) (k:zG b c=true):zG a c=true:=by rw [qL] at *; omega
theorem Rs (a b:Due):(zG a b || zG b a)=true:=by
  rw [I1,qL,qL]; omega
theorem Ib {a b:Due} (h:zG a b=true) (k:zG b a=true):a=b:=by
  rw [qL] at *; cases a; cases b; simp at *; omega
theorem yE {a b:Due} (h:gA a b=true):zG a b=true:=by rw [qL]; rw [uW] at h; omega
def jG (l:List Due):List Due:=l.mergeSort zG
theorem nV (l:List Due):(jG l).Perm l:=List.mergeSort_perm l zG
theorem Bl (l:List Due):(jG l).Pairwise (fun a b=>zG a b=true):=List.pairwise_mergeSort yF Rs l
theorem Bk {l m:List Due} (h:m.Perm l) (hp:m.Pairwise (fun a b=>zG a b=true)):m=jG l :=
  List.Perm.eq_of_pairwise (fun a b _ _ h k=>Ib h k) hp (Bl l) (h.trans (nV l).symm)
theorem Id {l m:List Due} (h:l.Perm m):jG l=jG m:=Bk ((nV l).trans h) (Bl l)

theorem tV {l:List Due} {i j:Nat} (hi:i<l.length) (hj:j<l.length) (c:Nat) :
    (kR l i j).getD c default=if c=j then l.getD i default else if c=i then l.getD j default else l.getD c default:=by
  unfold kR
  simp only [E7,List.getElem?_set,List.length_set]
  by_cases h1:c=j
  · subst h1; simp [hj]
  · rw [if_neg (fun e=>h1 e.symm),if_neg h1]
    by_cases h2:c=i
    · subst h2; simp [hi]
    · rw [if_neg (fun e=>h2 e.symm),if_neg h2]
theorem vA {l:List Due} {i j:Nat} (hi:i<l.length) (hj:j<l.length):(kR l i j).Perm l:=by
  have:=List.set_set_perm (as:=l) hi hj
  unfold kR
  rw [show l.getD j default=l[j] from by simp [hj],show l.getD i default=l[i] from by simp [hi]]
  exact this
theorem Ca {n:Nat} {l:List Due} {i:Nat} (hn:n≤l.length):(iU n l i).1.Perm l:=by
  fun_induction iU n l i with
  | case1 l i h1 h2 ih =>
    have hk:=Gr (l:=l) h1
    exact (ih (by rw [gH]; exact hn)).trans (vA (by omega) (by omega))
  | case2=>exact .refl _
  | case3=>exact .refl _
theorem Rx {n:Nat} {l:List Due} {i:Nat} (hn:n≤l.length) {c:Nat} (hc:n≤c):(iU n l i).1.getD c default=l.getD c default:=by
  fun_induction iU n l i with
  | case1 l i h1 h2 ih =>
    have hk:=Gr (l:=l) h1
    rw [ih (by rw [gH]; exact hn),tV (by omega) (by omega),if_neg (by omega),if_neg (by omega)]
  | case2=>rfl
  | case3=>rfl
theorem Xm {l:List Due} {j:Nat} (hj:j<l.length):(Gs l j).Perm l:=by
  fun_induction Gs l j with
  | case1 l j h ih=>exact (ih (by rw [gH]; omega)).trans (vA (by omega) hj)
  | case2=>exact .refl _

def ZU (l:List Due) (n k i:Nat):Prop:=∀ c,0<c→c<n→k≤(c - 1) / 2→(c - 1) / 2≠i→zG (l.getD ((c - 1) / 2) default) (l.getD c default)=true
def ZT (l:List Due) (n k i:Nat):Prop:=∀ c,0<c→c<n→(c - 1) / 2=i→0<i→k≤(i - 1) / 2→zG (l.getD ((i - 1) / 2) default) (l.getD c default)=true
def Hp (l:List Due) (n k:Nat):Prop:=∀ c,0<c→c<n→k≤(c - 1) / 2→zG (l.getD ((c - 1) / 2) default) (l.getD c default)=true
theorem Is {n:Nat} {l:List Due} {i c:Nat} (hc:c<n) (h:c=2 * i+1∨c=2 * i+2):zG (l.getD (qV n l i) default) (l.getD c default)=true:=by
  unfold qV
  split
  · rename_i h1
    rcases h with rfl | rfl
    · exact yE h1.2
    · exact Bj _
  · rename_i h1
    rcases h with rfl | rfl
    · exact Bj _
    · refine Hy.1 ?_
      cases ha:gA (l.getD (2 * i+2) default) (l.getD (2 * i+1) default) with
      | false=>rfl
      | true=>exact absurd ⟨hc,ha⟩ h1
theorem FF (n:Nat) (l:List Due) (i:Nat):qV n l i=2 * i+1∨qV n l i=2 * i+2:=by unfold qV; split <;> simp
theorem Iq {n:Nat} {l:List Due} {i k:Nat} (hn:n≤l.length) (hk:k≤i) (h1:ZU l n k i) (h2:ZT l n k i):Hp (iU n l i).1 n k:=by
  fun_induction iU n l i with
  | case1 l i q1 q2 ih =>
    have q3:=Gr (l:=l) q1
    have q4:=FF n l i
    have q5:=@Is n l i
    generalize qV n l i=j at *
    have hg:=tV (l:=l) (i:=i) (j:=j) (by omega) (by omega)
    refine ih (by rw [gH]; exact hn) (by omega) (fun c c1 c2 c3 c4=>?_) (fun c c1 c2 c3 c4 c5=>?_)
    · rw [hg,hg,if_neg c4]
      by_cases e:(c - 1) / 2=i
      · rw [if_pos e]
        by_cases e2:c=j
        · rw [if_pos e2]; exact yE q2
        · rw [if_neg e2,if_neg (by omega)]
          exact q5 c2 (by omega)
      · rw [if_neg e,if_neg (by rintro rfl; omega)]
        by_cases e2:c=i
        · rw [if_pos e2]; subst e2
          exact h2 j (by omega) q3 (by omega) c1 c3
        · rw [if_neg e2]; exact h1 c c1 c2 c3 e
    · rw [hg,hg,show (j - 1) / 2=i from by omega,if_neg (by omega),if_pos rfl,if_neg (by omega),if_neg (by omega),← c3]
      exact h1 c c1 c2 (by omega) (by omega)
  | case2 l i q1 q2 =>
    intro c c1 c2 c3
    by_cases e:(c - 1) / 2=i
    · rw [e]
      exact yF _ _ _ (Hy.1 (by simpa using q2)) (Is c2 (by omega))
    · exact h1 c c1 c2 c3 e
  | case3 l i q1 =>
    intro c c1 c2 c3
    exact h1 c c1 c2 c3 (by omega)
theorem Xk {n:Nat}:∀ (k:Nat) (l:List Due),n≤l.length→Hp l n k→Hp (IB n k l) n 0
  | 0,_,_,h=>h
  | k+1,l,hn,h=>Xk k _ (by rw [pL]; exact hn) (Iq hn (G2 _) (fun c c1 c2 c3 c4=>h c c1 c2 (by omega)) (fun c c1 c2 c3 c4 c5=>by omega))
theorem Xl {l:List Due}:Hp (sT l) l.length 0:=Xk _ _ (G2 _) (fun c c1 c2 c3=>by omega)
theorem Ir {n:Nat}:∀ (k:Nat) (l:List Due),n≤l.length→(IB n k l).Perm l
  | 0,_,_=>.refl _
  | k+1,l,hn=>(Ir k _ (by rw [pL]; exact hn)).trans (Ca hn)
theorem LB {l:List Due} {n:Nat} (h:Hp l n 0):∀ c,c<n→zG (l.getD 0 default) (l.getD c default)=true:=by
  intro c
  induction c using Nat.strongRecOn with
  | ind c ih =>
    intro hc
    by_cases e:c=0
    · subst e; exact Bj _
    · exact yF _ _ _ (ih ((c - 1) / 2) (by omega) (by omega)) (h c (by omega) hc (by omega))
theorem Rz {l:List Due} {n:Nat} (hl:l.length=n+1):(lG l).Perm l:=by
  unfold lG
  rw [hl]
  exact (Ca (by rw [gH]; omega)).trans (vA (by omega) (by omega))
theorem Ry {l:List Due} {n:Nat} (hl:l.length=n+1):(lG l).getD n default=l.getD 0 default:=by
  unfold lG
  rw [hl,Rx (by rw [gH]; omega) (by omega),tV (by omega) (by omega)]
  simp
theorem FG {l:List Due} {n:Nat} (hl:l.length=n+1) (h:Hp l (n+1) 0):Hp ((lG l).take n) n 0:=by
  have h1:Hp (lG l) n 0:=by
    unfold lG
    rw [hl]
    have hg:=tV (l:=l) (i:=0) (j:=n) (by omega) (by omega)
    refine Iq (by rw [gH]; omega) (G2 _) (fun c c1 c2 c3 c4=>?_) (fun c c1 c2 c3 c4 c5=>by omega)
    simp only [Nat.add_sub_cancel] at c2 ⊢
    rw [hg,hg,if_neg (by omega),if_neg (by omega),if_neg (by omega),if_neg (by omega)]
    exact h c c1 (by omega) c3
  intro c c1 c2 c3
  have:=h1 c c1 c2 c3
  have ht:∀ j,j<n→((lG l).take n).getD j default=(lG l).getD j default:=fun j hj=>by
    simp only [E7,J7,if_pos hj]
  rw [ht _ (by omega),ht _ c2]; exact this
theorem Ny:∀ (n:Nat) (l:List Due),l.length=n→Hp l n 0→(Dk n l).Perm l∧(Dk n l).Pairwise (fun a b=>zG a b=true)
  | 0,l,hl,_=>by rw [List.length_eq_zero_iff.1 hl]; exact ⟨.refl _,.nil⟩
  | n + 1,l,hl,h=>by
    have hlt:(lG l).length=n+1:=by rw [wS]; exact hl
    obtain ⟨h1,h2⟩:=Ny n ((lG l).take n) (by rw [List.length_take,hlt]; omega) (FG hl h)
    have hs:(lG l).take n ++ [(lG l).getD n default]=lG l:=by
      rw [show (lG l).getD n default=(lG l)[n] from by simp [hlt],List.take_append_getElem]
      exact List.take_of_length_le (by omega)
    have hp:((lG l).getD n default :: Dk n ((lG l).take n)).Perm l:=by
      refine ((List.Perm.cons _ h1).trans ?_).trans (Rz hl)
      conv=>rhs; rw [← hs]
      exact (List.perm_append_comm (l₁:=[_]))
    refine ⟨hp,List.pairwise_cons.2 ⟨fun a ha=>?_,h2⟩⟩
    rw [Ry hl]
    have ha2:a∈l:=hp.mem_iff.1 (H9 _ ha)
    obtain ⟨c,hc,rfl⟩:=Q4 ha2
    have:=LB h c (by omega)
    rwa [show l.getD c default=l[c] from by simp [hc]] at this
theorem Lo (l:List Due):Dk l.length (sT l)=jG l:=by
  obtain ⟨h1,h2⟩:=Ny l.length (sT l) (yM l) Xl
  exact Bk (h1.trans (Ir _ _ (G2 _))) h2
def pB (l:List Due) (d:Due):List Due×Int:=if dP l=false then (l,40) else if sP d.tm=false then (l,50) else if Rr d.id=false then (l,40) else if Rf (iH l) d.id=true then (l,60) else (jG (pA (iH l) d),0)
def fC (l:List Due) (now:Int):List Int:=(l.filter fun d=>decide (d.tm≤now)).map (·.id)
def iZ (l m:List Due) (now:Int):List Due:=(fC l now).foldl Hz m
def kF (l:List Due) (now:Int):List Int×List Due:=if dP l=false then ([],l) else (fC l now,jG (iZ l (iH l) now))
theorem Jc (l m:List Due) (now:Int):(iZ l m now).length≤m.length:=by
  unfold iZ
  generalize fC l now=ks
  induction ks generalizing m with
  | nil=>exact G2 _
  | cons k ks ih=>exact Nat.le_trans (ih (Hz m k)) (Wj m k)
theorem zJ (l:List Due) (now:Int):(fC l now).length≤l.length:=by
  unfold fC; rw [List.length_map]; exact List.length_filter_le _ _
theorem Em {l:List Due} {i:Nat} {now:Int} (h:i<l.length) (k:(l.getD i default).tm≤now):fC (l.take (i+1)) now=fC (l.take i) now ++ [(l.getD i default).id]:=by
  unfold fC
  rw [E7,G0 h] at k ⊢
  rw [U5,Z2,J6,G0 h]
  simp only [Option.toList_some,R9,Option.getD_some] at k ⊢
  rw [if_pos (by simpa using k)]; rfl
theorem El {l:List Due} {i:Nat} {now:Int} (h:i<l.length) (k:¬ (l.getD i default).tm≤now):fC (l.take (i+1)) now=fC (l.take i) now:=by
  unfold fC
  rw [E7,G0 h] at k
  rw [U5,Z2,J6,G0 h]
  simp only [Option.toList_some,R9,Option.getD_some] at k ⊢
  rw [if_neg (by simpa using k)]; simp
theorem Se {l m:List Due} {i:Nat} {now:Int} (h:i<l.length) (k:(l.getD i default).tm≤now):Hz (iZ (l.take i) m now) (l.getD i default).id=iZ (l.take (i+1)) m now:=by
  unfold iZ; rw [Em h k,S9]; rfl
theorem Sd {l m:List Due} {i:Nat} {now:Int} (h:i<l.length) (k:¬ (l.getD i default).tm≤now):iZ (l.take (i+1)) m now=iZ (l.take i) m now:=by
  unfold iZ; rw [El h k]
set_option linter.unusedSimpArgs false
theorem nU {k:Int}:∀ {l:List Due},(∀ x,x∈l→x.id≠k)→nA l k=none
  | [],_=>rfl
  | d :: l,h=>by
    simp only [nA]
    rw [if_neg (fun e=>h d (List.mem_cons_self ..) e.symm),nU (fun x hx=>h x (H9 _ hx))]
    rfl
theorem Bi {k:Int}:∀ {l:List Due},(∃ x,x∈l∧x.id=k)→∃ r,nA l k=some r
  | [],⟨x,hx,_⟩=>by cases hx
  | d :: l,⟨x,hx,e⟩=>by
    simp only [nA]
    by_cases h:k=d.id
    · exact ⟨_,if_pos h⟩
    · rw [if_neg h]
      rcases List.mem_cons.1 hx with rfl | hx
      · exact absurd e.symm h
      · obtain ⟨r,hr⟩:=Bi ⟨x,hx,e⟩
        rw [hr]; exact ⟨_,rfl⟩
theorem Ia {l:List Due} {k:Int}:Rf l k=true↔∃ x,x∈l∧x.id=k:=by
  unfold Rf
  constructor
  · intro h
    refine Classical.byContradiction fun hn=>?_
    rw [nU (fun x hx e=>hn ⟨x,hx,e⟩)] at h
    cases h
  · intro h
    obtain ⟨r,hr⟩:=Bi h
    rw [hr]; rfl
theorem Nv:∀ (l m:List Due),((m ++ l).map (·.id)).Nodup→l.foldl pA m=m ++ l
  | [],m,_=>by simp
  | d :: l,m,h=>by
    have h2:∀ x,x∈m→x.id≠d.id:=fun x hx e=>by
      rw [J6,U3] at h
      exact h.2.2 x.id (G6.2 ⟨x,hx,rfl⟩) d.id (by simp) e
    have h3:pA m d=m ++ [d]:=by unfold pA; rw [nU h2]
    rw [N8,h3,Nv l (m ++ [d]) (by simpa using h)]
    simp
theorem Lf {l:List Due} (h:(l.map (·.id)).Nodup):iH l=l:=(Nv l [] (by simpa using h)).trans (by simp)
theorem Gh {a b c:Due} (h:gA a b=true) (k:gA b c=true):gA a c=true:=by
  rw [uW] at *; omega
theorem Ah {l:List Due} {i:Nat}:rS l i=true↔sP (l.getD i default).tm=true∧Rr (l.getD i default).id=true∧(∀ x,x∈l.take i→x.id≠(l.getD i default).id)∧(i=0∨gA (l.getD (i - 1) default) (l.getD i default)=true):=by
  simp only [rS,E0,M9,I1,decide_eq_true_eq,List.any_eq_false,and_assoc]
theorem tU {l:List Due} {i:Nat} (h:i<l.length):l.getD i default=l[i]:=by simp [h]
theorem kE {l:List Due}:dP l=true↔(∀ x,x∈l→sP x.tm=true∧Rr x.id=true)∧(l.map (·.id)).Nodup∧l.Pairwise (fun a b=>gA a b=true):=by
  have h0:dP l=true↔∀ i,i<l.length→rS l i=true:=by
    simp only [dP,G5,R3]
  rw [h0]
  constructor
  · intro h
    refine ⟨fun x hx=>?_,?_,?_⟩
    · obtain ⟨i,hi,rfl⟩:=Q4 hx
      have:=Ah.1 (h i hi)
      rw [tU hi] at this
      exact ⟨this.1,this.2.1⟩
    · refine U4.2 (S7.2 fun i j hi hj hij=>?_)
      have:=(Ah.1 (h j hj)).2.2.1 l[i] (by
        refine X5.2 ⟨i,?_⟩
        rw [J7,if_pos hij,G0 hi])
      rwa [tU hj] at this
    · rw [S7]
      intro i j hi hj hij
      induction j with
      | zero=>omega
      | succ j ih =>
        have h1:=(Ah.1 (h (j+1) hj)).2.2.2
        rcases h1 with h1 | h1
        · omega
        · rw [tU hj,Nat.add_sub_cancel,tU (by omega)] at h1
          by_cases e:i=j
          · subst e; exact h1
          · exact Gh (ih (by omega) (by omega)) h1
  · rintro ⟨h1,h2,h3⟩ i hi
    rw [Ah,tU hi]
    obtain ⟨q1,q2⟩:=h1 l[i] (List.getElem_mem hi)
    refine ⟨q1,q2,fun x hx e=>?_,?_⟩
    · obtain ⟨j,hj⟩:=X5.1 hx
      rw [J7] at hj
      split at hj
      · rename_i hji
        obtain ⟨hj1,hj2⟩:=List.getElem?_eq_some_iff.1 hj
        have:=S7.1 (U4.1 h2) j i hj1 hi hji
        rw [hj2] at this
        exact this e
      · cases hj
    · by_cases e:i=0
      · exact .inl e
      · right
        rw [tU (by omega)]
        exact S7.1 h3 (i - 1) i (by omega) hi (by omega)
theorem Li {l:List Due} (h:dP l=true):iH l=l:=Lf (kE.1 h).2.1
theorem Ma {l:List Due} (h1:∀ x,x∈l→sP x.tm=true∧Rr x.id=true) (h2:(l.map (·.id)).Nodup):dP (jG l)=true:=by
  have hp:=nV l
  have hn:((jG l).map (·.id)).Nodup:=(hp.map _).nodup_iff.2 h2
  refine kE.2 ⟨fun x hx=>h1 x (hp.mem_iff.1 hx),hn,?_⟩
  have hs:=Bl l
  have hd:(jG l).Pairwise (fun a b=>a.id≠b.id):=U4.1 hn
  refine (hs.and hd).imp fun {a b} h=>?_
  obtain ⟨h,k⟩:=h
  rw [qL] at h; rw [uW]; omega
theorem Yw {l:List Due} {d:Due} (h:dP l=true) (ht:sP d.tm=true) (hi:Rr d.id=true) (hn:∀ x,x∈l→x.id≠d.id):pB l d=(jG (l ++ [d]),0)∧dP (jG (l ++ [d]))=true:=by
  obtain ⟨h1,h2,h3⟩:=kE.1 h
  have hb:=Li h
  refine ⟨?_,Ma (fun x hx=>?_) ?_⟩
  · unfold pB
    rw [if_neg (by rw [h]; decide),if_neg (by rw [ht]; decide),if_neg (by rw [hi]; decide),hb,if_neg (fun hh=>by
      obtain ⟨x,hx,e⟩:=Ia.1 hh
      exact hn x hx e)]
    unfold pA
    rw [nU hn]
  · rcases List.mem_append.1 hx with hx | hx
    · exact h1 x hx
    · rw [List.mem_singleton.1 hx]; exact ⟨ht,hi⟩
  · rw [J6,U3]
    refine ⟨h2,by simp,fun a ha b hb=>?_⟩
    obtain ⟨x,hx,rfl⟩:=G6.1 ha
    simp at hb; subst hb
    exact hn x hx
end Go.Sak
