/- Part S101 of the proofs about the program: Xd, Pd, Xe, Pe. Conditions: none. -/
import Derived.Test.YtahdilehajdhgaaGreatS03
namespace Go.Sak
open Go Go.RowKit
structure Due where
  tm:Int
  id:Int
  deriving DecidableEq,Inhabited
def encD (d:Due):List AV:=[.int .i64 d.tm,.int .i64 d.id]
theorem pure_encD (x:Due):pures (encD x)=true:=rfl
def dAhead (a b:Due):Bool:=decide (a.tm<b.tm) || (decide (a.tm=b.tm) && decide (a.id<b.id))
def dTime (n:Int):Bool:=decide (0≤n) && decide (n≤1099511627776)
def dId (n:Int):Bool:=decide (0≤n) && decide (n<16)
def hSwap (l:List Due) (i j:Nat):List Due:=(l.set i (l.getD j default)).set j (l.getD i default)
theorem hSwap_len (l:List Due) (i j:Nat):(hSwap l i j).length=l.length:=by simp [hSwap]
def hUp (l:List Due) (j:Nat):List Due:=if _h:(j - 1) / 2≠j∧dAhead (l.getD j default) (l.getD ((j - 1) / 2) default)=true then hUp (hSwap l ((j - 1) / 2) j) ((j - 1) / 2) else l
termination_by j
decreasing_by omega
def hKid (n:Nat) (l:List Due) (i:Nat):Nat:=if 2 * i+2<n∧dAhead (l.getD (2 * i+2) default) (l.getD (2 * i+1) default)=true then 2 * i+2 else 2 * i+1
theorem hKid_gt (n:Nat) (l:List Due) (i:Nat):i<hKid n l i:=by unfold hKid; split <;> omega
theorem hKid_lt {n:Nat} {l:List Due} {i:Nat} (h:2 * i+1<n):hKid n l i<n:=by unfold hKid; split <;> omega
def hDown (n:Nat) (l:List Due) (i:Nat):List Due×Nat:=if _h:2 * i+1<n then (if dAhead (l.getD (hKid n l i) default) (l.getD i default)=true then hDown n (hSwap l i (hKid n l i)) (hKid n l i) else (l,i)) else (l,i)
termination_by n - i
decreasing_by have:=hKid_gt n l i; omega
def hIn (n:Nat):Nat→List Due→List Due
  | 0,l=>l
  | k+1,l=>hIn n k (hDown n l k).1
def hInit (l:List Due):List Due:=hIn l.length (l.length / 2) l
def hTop (l:List Due):List Due:=(hDown (l.length - 1) (hSwap l 0 (l.length - 1)) 0).1
def hAll:Nat→List Due→List Due
  | 0,_=>[]
  | k+1,l=>(hTop l).getD k default :: hAll k ((hTop l).take k)
theorem hDown_len (n:Nat) (l:List Due) (i:Nat):(hDown n l i).1.length=l.length:=by
  fun_induction hDown n l i with
  | case1 l i h1 h2 ih=>rw [ih,hSwap_len]
  | case2=>rfl
  | case3=>rfl
theorem hUp_len (l:List Due) (j:Nat):(hUp l j).length=l.length:=by
  fun_induction hUp l j with
  | case1 l j h ih=>rw [ih,hSwap_len]
  | case2=>rfl
theorem hIn_len (n:Nat):∀ (k:Nat) (l:List Due),(hIn n k l).length=l.length
  | 0,_=>rfl
  | k+1,l=>(hIn_len n k _).trans (hDown_len n l k)
theorem hInit_len (l:List Due):(hInit l).length=l.length:=hIn_len _ _ _
theorem hTop_len (l:List Due):(hTop l).length=l.length:=(hDown_len _ _ _).trans (hSwap_len _ _ _)
def dFind:List Due→Int→Option (Nat×Due)
  | [],_=>none
  | d :: l,k=>if k=d.id then some (0,d) else (dFind l k).map fun r=>(r.1+1,r.2)
def dPut (l:List Due) (d:Due):List Due:=match dFind l d.id with
  | some r=>l.set r.1 d
  | none=>l ++ [d]
def dDel (l:List Due) (k:Int):List Due:=match dFind l k with
  | some r=>l.eraseIdx r.1
  | none=>l
def dHas (l:List Due) (k:Int):Bool:=(dFind l k).isSome
def dGet (l:List Due) (k:Int):Due:=match dFind l k with
  | some r=>r.2
  | none=>⟨0,0⟩
def dueBy (l:List Due):List Due:=l.foldl dPut []
theorem dFind_lt:∀ {l:List Due} {k:Int} {r:Nat×Due},dFind l k=some r→r.1<l.length
  | d :: l,k,r,h=>by
    simp only [dFind] at h
    split at h
    · obtain rfl:=Option.some.inj h; simp
    · rw [Option.map_eq_some_iff] at h
      obtain ⟨s,h1,rfl⟩:=h
      have:=dFind_lt h1
      simp only [List.length_cons]; omega
theorem dPut_len (l:List Due) (d:Due):(dPut l d).length≤l.length+1:=by
  unfold dPut; split <;> simp
theorem dueBy_len:∀ (l m:List Due),(l.foldl dPut m).length≤m.length+l.length
  | [],m=>by simp
  | d :: l,m=>by
    have:=dueBy_len l (dPut m d)
    have:=dPut_len m d
    simp only [List.foldl_cons,List.length_cons]; omega
theorem dDel_len (l:List Due) (k:Int):(dDel l k).length≤l.length:=by
  unfold dDel; split
  · rw [List.length_eraseIdx]; split <;> omega
  · exact Nat.le_refl _
theorem dueBy_s {l:List Due} {i:Nat} (h:i<l.length):dPut (dueBy (l.take i)) (l.getD i default)=dueBy (l.take (i+1)):=by
  unfold dueBy
  rw [List.take_add_one,List.foldl_append,List.getElem?_eq_getElem h,List.getD_eq_getElem?_getD,List.getElem?_eq_getElem h]; rfl
def dOkAt (l:List Due) (i:Nat):Bool:=dTime (l.getD i default).tm && dId (l.getD i default).id && !((l.take i).any fun x=>decide (x.id=(l.getD i default).id)) && (decide (i=0) || dAhead (l.getD (i - 1) default) (l.getD i default))
def dueCheck (l:List Due):Bool:=(List.range l.length).all (dOkAt l)
theorem dueCheck_t {l:List Due} (h:∀ i,i<l.length→dOkAt l i=true):dueCheck l=true:=by
  simp only [dueCheck,List.all_eq_true,List.mem_range]; exact h
theorem dueCheck_f {l:List Due} {i:Nat} (hi:i<l.length) (h:dOkAt l i=false):dueCheck l=false:=by
  cases hc:dueCheck l with
  | false=>rfl
  | true =>
    simp only [dueCheck,List.all_eq_true,List.mem_range] at hc
    rw [hc i hi] at h; cases h
end Go.Sak
namespace Go.Sak
open Go Go.RowKit
set_option linter.unusedVariables false
set_option linter.unusedSimpArgs false
def dLe (a b:Due):Bool:=!dAhead b a
theorem dLe_iff {a b:Due}:dLe a b=true↔a.tm<b.tm∨(a.tm=b.tm∧a.id≤b.id):=by
  simp only [dLe,dAhead,Bool.not_eq_true',Bool.or_eq_false_iff,Bool.and_eq_false_iff,decide_eq_false_iff_not]
  omega
theorem dAhead_iff {a b:Due}:dAhead a b=true↔a.tm<b.tm∨(a.tm=b.tm∧a.id<b.id):=by
  simp only [dAhead,Bool.or_eq_true,Bool.and_eq_true,decide_eq_true_eq]
theorem dAhead_f {a b:Due}:dAhead a b=false↔dLe b a=true:=by simp [dLe]
theorem dLe_refl (a:Due):dLe a a=true:=by rw [dLe_iff]; omega
theorem dLe_trans (a b c:Due) (h:dLe a b=true) (k:dLe b c=true):dLe a c=true:=by rw [dLe_iff] at *; omega
theorem dLe_total (a b:Due):(dLe a b || dLe b a)=true:=by
  rw [Bool.or_eq_true,dLe_iff,dLe_iff]; omega
theorem dLe_anti {a b:Due} (h:dLe a b=true) (k:dLe b a=true):a=b:=by
  rw [dLe_iff] at *; cases a; cases b; simp at *; omega
theorem dAhead_le {a b:Due} (h:dAhead a b=true):dLe a b=true:=by rw [dLe_iff]; rw [dAhead_iff] at h; omega
def dSort (l:List Due):List Due:=l.mergeSort dLe
theorem dSort_perm (l:List Due):(dSort l).Perm l:=List.mergeSort_perm l dLe
theorem dSort_pw (l:List Due):(dSort l).Pairwise (fun a b=>dLe a b=true):=List.pairwise_mergeSort dLe_trans dLe_total l
theorem dSort_of {l m:List Due} (h:m.Perm l) (hp:m.Pairwise (fun a b=>dLe a b=true)):m=dSort l :=
  List.Perm.eq_of_pairwise (fun a b _ _ h k=>dLe_anti h k) hp (dSort_pw l) (h.trans (dSort_perm l).symm)
theorem dSort_congr {l m:List Due} (h:l.Perm m):dSort l=dSort m:=dSort_of ((dSort_perm l).trans h) (dSort_pw l)

theorem hSwap_get {l:List Due} {i j:Nat} (hi:i<l.length) (hj:j<l.length) (c:Nat) :
    (hSwap l i j).getD c default=if c=j then l.getD i default else if c=i then l.getD j default else l.getD c default:=by
  unfold hSwap
  simp only [List.getD_eq_getElem?_getD,List.getElem?_set,List.length_set]
  by_cases h1:c=j
  · subst h1; simp [hj]
  · rw [if_neg (fun e=>h1 e.symm),if_neg h1]
    by_cases h2:c=i
    · subst h2; simp [hi]
    · rw [if_neg (fun e=>h2 e.symm),if_neg h2]
theorem hSwap_perm {l:List Due} {i j:Nat} (hi:i<l.length) (hj:j<l.length):(hSwap l i j).Perm l:=by
  have:=List.set_set_perm (as:=l) hi hj
  unfold hSwap
  rw [show l.getD j default=l[j] from by simp [hj],show l.getD i default=l[i] from by simp [hi]]
  exact this
theorem hDown_perm {n:Nat} {l:List Due} {i:Nat} (hn:n≤l.length):(hDown n l i).1.Perm l:=by
  fun_induction hDown n l i with
  | case1 l i h1 h2 ih =>
    have hk:=hKid_lt (l:=l) h1
    exact (ih (by rw [hSwap_len]; exact hn)).trans (hSwap_perm (by omega) (by omega))
  | case2=>exact .refl _
  | case3=>exact .refl _
theorem hDown_out {n:Nat} {l:List Due} {i:Nat} (hn:n≤l.length) {c:Nat} (hc:n≤c):(hDown n l i).1.getD c default=l.getD c default:=by
  fun_induction hDown n l i with
  | case1 l i h1 h2 ih =>
    have hk:=hKid_lt (l:=l) h1
    rw [ih (by rw [hSwap_len]; exact hn),hSwap_get (by omega) (by omega),if_neg (by omega),if_neg (by omega)]
  | case2=>rfl
  | case3=>rfl
theorem hUp_perm {l:List Due} {j:Nat} (hj:j<l.length):(hUp l j).Perm l:=by
  fun_induction hUp l j with
  | case1 l j h ih=>exact (ih (by rw [hSwap_len]; omega)).trans (hSwap_perm (by omega) hj)
  | case2=>exact .refl _

def HpX (l:List Due) (n k i:Nat):Prop:=∀ c,0<c→c<n→k≤(c - 1) / 2→(c - 1) / 2≠i→dLe (l.getD ((c - 1) / 2) default) (l.getD c default)=true
def HpG (l:List Due) (n k i:Nat):Prop:=∀ c,0<c→c<n→(c - 1) / 2=i→0<i→k≤(i - 1) / 2→dLe (l.getD ((i - 1) / 2) default) (l.getD c default)=true
def Hp (l:List Due) (n k:Nat):Prop:=∀ c,0<c→c<n→k≤(c - 1) / 2→dLe (l.getD ((c - 1) / 2) default) (l.getD c default)=true
theorem hKid_min {n:Nat} {l:List Due} {i c:Nat} (hc:c<n) (h:c=2 * i+1∨c=2 * i+2):dLe (l.getD (hKid n l i) default) (l.getD c default)=true:=by
  unfold hKid
  split
  · rename_i h1
    rcases h with rfl | rfl
    · exact dAhead_le h1.2
    · exact dLe_refl _
  · rename_i h1
    rcases h with rfl | rfl
    · exact dLe_refl _
    · refine dAhead_f.1 ?_
      cases ha:dAhead (l.getD (2 * i+2) default) (l.getD (2 * i+1) default) with
      | false=>rfl
      | true=>exact absurd ⟨hc,ha⟩ h1
theorem hKid_is (n:Nat) (l:List Due) (i:Nat):hKid n l i=2 * i+1∨hKid n l i=2 * i+2:=by unfold hKid; split <;> simp
theorem hDown_hp {n:Nat} {l:List Due} {i k:Nat} (hn:n≤l.length) (hk:k≤i) (h1:HpX l n k i) (h2:HpG l n k i):Hp (hDown n l i).1 n k:=by
  fun_induction hDown n l i with
  | case1 l i q1 q2 ih =>
    have q3:=hKid_lt (l:=l) q1
    have q4:=hKid_is n l i
    have q5:=@hKid_min n l i
    generalize hKid n l i=j at *
    have hg:=hSwap_get (l:=l) (i:=i) (j:=j) (by omega) (by omega)
    refine ih (by rw [hSwap_len]; exact hn) (by omega) (fun c c1 c2 c3 c4=>?_) (fun c c1 c2 c3 c4 c5=>?_)
    · rw [hg,hg,if_neg c4]
      by_cases e:(c - 1) / 2=i
      · rw [if_pos e]
        by_cases e2:c=j
        · rw [if_pos e2]; exact dAhead_le q2
        · rw [if_neg e2,if_neg (by omega)]
          exact q5 c2 (by omega)
      · rw [if_neg e,if_neg (by rintro rfl; omega)]
        by_cases e2:c=i
        · rw [if_pos e2]; subst e2
          exact h2 j (by omega) q3 (by omega) c1 c3
        · rw [if_neg e2]; exact h1 c c1 c2 c3 e
    · rw [hg,hg,show (j - 1) / 2=i from by omega,if_neg (by omega),if_pos rfl,if_neg (by omega),if_neg (by omega),← c3]
      exact h1 c c1 c2 (by omega) (by omega)
  | case2 l i q1 q2 =>
    intro c c1 c2 c3
    by_cases e:(c - 1) / 2=i
    · rw [e]
      exact dLe_trans _ _ _ (dAhead_f.1 (by simpa using q2)) (hKid_min c2 (by omega))
    · exact h1 c c1 c2 c3 e
  | case3 l i q1 =>
    intro c c1 c2 c3
    exact h1 c c1 c2 c3 (by omega)
theorem hIn_hp {n:Nat}:∀ (k:Nat) (l:List Due),n≤l.length→Hp l n k→Hp (hIn n k l) n 0
  | 0,_,_,h=>h
  | k+1,l,hn,h=>hIn_hp k _ (by rw [hDown_len]; exact hn) (hDown_hp hn (Nat.le_refl _) (fun c c1 c2 c3 c4=>h c c1 c2 (by omega)) (fun c c1 c2 c3 c4 c5=>by omega))
theorem hInit_hp {l:List Due}:Hp (hInit l) l.length 0:=hIn_hp _ _ (Nat.le_refl _) (fun c c1 c2 c3=>by omega)
theorem hIn_perm {n:Nat}:∀ (k:Nat) (l:List Due),n≤l.length→(hIn n k l).Perm l
  | 0,_,_=>.refl _
  | k+1,l,hn=>(hIn_perm k _ (by rw [hDown_len]; exact hn)).trans (hDown_perm hn)
theorem hp_min {l:List Due} {n:Nat} (h:Hp l n 0):∀ c,c<n→dLe (l.getD 0 default) (l.getD c default)=true:=by
  intro c
  induction c using Nat.strongRecOn with
  | ind c ih =>
    intro hc
    by_cases e:c=0
    · subst e; exact dLe_refl _
    · exact dLe_trans _ _ _ (ih ((c - 1) / 2) (by omega) (by omega)) (h c (by omega) hc (by omega))
theorem hTop_perm {l:List Due} {n:Nat} (hl:l.length=n+1):(hTop l).Perm l:=by
  unfold hTop
  rw [hl]
  exact (hDown_perm (by rw [hSwap_len]; omega)).trans (hSwap_perm (by omega) (by omega))
theorem hTop_last {l:List Due} {n:Nat} (hl:l.length=n+1):(hTop l).getD n default=l.getD 0 default:=by
  unfold hTop
  rw [hl,hDown_out (by rw [hSwap_len]; omega) (by omega),hSwap_get (by omega) (by omega)]
  simp
theorem hTop_hp {l:List Due} {n:Nat} (hl:l.length=n+1) (h:Hp l (n+1) 0):Hp ((hTop l).take n) n 0:=by
  have h1:Hp (hTop l) n 0:=by
    unfold hTop
    rw [hl]
    have hg:=hSwap_get (l:=l) (i:=0) (j:=n) (by omega) (by omega)
    refine hDown_hp (by rw [hSwap_len]; omega) (Nat.le_refl _) (fun c c1 c2 c3 c4=>?_) (fun c c1 c2 c3 c4 c5=>by omega)
    simp only [Nat.add_sub_cancel] at c2 ⊢
    rw [hg,hg,if_neg (by omega),if_neg (by omega),if_neg (by omega),if_neg (by omega)]
    exact h c c1 (by omega) c3
  intro c c1 c2 c3
  have:=h1 c c1 c2 c3
  have ht:∀ j,j<n→((hTop l).take n).getD j default=(hTop l).getD j default:=fun j hj=>by
    simp only [List.getD_eq_getElem?_getD,List.getElem?_take,if_pos hj]
  rw [ht _ (by omega),ht _ c2]; exact this
theorem hAll_ok:∀ (n:Nat) (l:List Due),l.length=n→Hp l n 0→(hAll n l).Perm l∧(hAll n l).Pairwise (fun a b=>dLe a b=true)
  | 0,l,hl,_=>by rw [List.length_eq_zero_iff.1 hl]; exact ⟨.refl _,.nil⟩
  | n + 1,l,hl,h=>by
    have hlt:(hTop l).length=n+1:=by rw [hTop_len]; exact hl
    obtain ⟨h1,h2⟩:=hAll_ok n ((hTop l).take n) (by rw [List.length_take,hlt]; omega) (hTop_hp hl h)
    have hs:(hTop l).take n ++ [(hTop l).getD n default]=hTop l:=by
      rw [show (hTop l).getD n default=(hTop l)[n] from by simp [hlt],List.take_append_getElem]
      exact List.take_of_length_le (by omega)
    have hp:((hTop l).getD n default :: hAll n ((hTop l).take n)).Perm l:=by
      refine ((List.Perm.cons _ h1).trans ?_).trans (hTop_perm hl)
      conv=>rhs; rw [← hs]
      exact (List.perm_append_comm (l₁:=[_]))
    refine ⟨hp,List.pairwise_cons.2 ⟨fun a ha=>?_,h2⟩⟩
    rw [hTop_last hl]
    have ha2:a∈l:=hp.mem_iff.1 (List.mem_cons_of_mem _ ha)
    obtain ⟨c,hc,rfl⟩:=List.getElem_of_mem ha2
    have:=hp_min h c (by omega)
    rwa [show l.getD c default=l[c] from by simp [hc]] at this
theorem heap_sorts (l:List Due):hAll l.length (hInit l)=dSort l:=by
  obtain ⟨h1,h2⟩:=hAll_ok l.length (hInit l) (hInit_len l) hInit_hp
  exact dSort_of (h1.trans (hIn_perm _ _ (Nat.le_refl _))) h2
end Go.Sak
namespace Go.Sak
open Go Go.RowKit
def duePut (l:List Due) (d:Due):List Due×Int:=if dueCheck l=false then (l,40) else if dTime d.tm=false then (l,50) else if dId d.id=false then (l,40) else if dHas (dueBy l) d.id=true then (l,60) else (dSort (dPut (dueBy l) d),0)
def lateIds (l:List Due) (now:Int):List Int:=(l.filter fun d=>decide (d.tm≤now)).map (·.id)
def lateMap (l m:List Due) (now:Int):List Due:=(lateIds l now).foldl dDel m
def dueLate (l:List Due) (now:Int):List Int×List Due:=if dueCheck l=false then ([],l) else (lateIds l now,dSort (lateMap l (dueBy l) now))
def dueFirst (l:List Due):Due×Bool:=if dueCheck l=false∨l.length=0 then (⟨0,0⟩,false) else ((dSort (dueBy l)).getD 0 default,true)
theorem lateMap_len (l m:List Due) (now:Int):(lateMap l m now).length≤m.length:=by
  unfold lateMap
  generalize lateIds l now=ks
  induction ks generalizing m with
  | nil=>exact Nat.le_refl _
  | cons k ks ih=>exact Nat.le_trans (ih (dDel m k)) (dDel_len m k)
theorem dSort_len (l:List Due):(dSort l).length=l.length:=(dSort_perm l).length_eq
theorem lateIds_len (l:List Due) (now:Int):(lateIds l now).length≤l.length:=by
  unfold lateIds; rw [List.length_map]; exact List.length_filter_le _ _
theorem lateIds_y {l:List Due} {i:Nat} {now:Int} (h:i<l.length) (k:(l.getD i default).tm≤now):lateIds (l.take (i+1)) now=lateIds (l.take i) now ++ [(l.getD i default).id]:=by
  unfold lateIds
  rw [List.getD_eq_getElem?_getD,List.getElem?_eq_getElem h] at k ⊢
  rw [List.take_add_one,List.filter_append,List.map_append,List.getElem?_eq_getElem h]
  simp only [Option.toList_some,List.filter_cons,Option.getD_some] at k ⊢
  rw [if_pos (by simpa using k)]; rfl
theorem lateIds_n {l:List Due} {i:Nat} {now:Int} (h:i<l.length) (k:¬ (l.getD i default).tm≤now):lateIds (l.take (i+1)) now=lateIds (l.take i) now:=by
  unfold lateIds
  rw [List.getD_eq_getElem?_getD,List.getElem?_eq_getElem h] at k
  rw [List.take_add_one,List.filter_append,List.map_append,List.getElem?_eq_getElem h]
  simp only [Option.toList_some,List.filter_cons,Option.getD_some] at k ⊢
  rw [if_neg (by simpa using k)]; simp
theorem lateMap_y {l m:List Due} {i:Nat} {now:Int} (h:i<l.length) (k:(l.getD i default).tm≤now):dDel (lateMap (l.take i) m now) (l.getD i default).id=lateMap (l.take (i+1)) m now:=by
  unfold lateMap; rw [lateIds_y h k,List.foldl_append]; rfl
theorem lateMap_n {l m:List Due} {i:Nat} {now:Int} (h:i<l.length) (k:¬ (l.getD i default).tm≤now):lateMap (l.take (i+1)) m now=lateMap (l.take i) m now:=by
  unfold lateMap; rw [lateIds_n h k]
theorem dPut_pos (l:List Due) (d:Due):l.length≤(dPut l d).length∧1≤(dPut l d).length:=by
  unfold dPut
  split
  · rename_i r h
    have:=dFind_lt h
    rw [List.length_set]; omega
  · simp
theorem dueBy_grow:∀ (l m:List Due),m.length≤(l.foldl dPut m).length
  | [],_=>Nat.le_refl _
  | d :: l,m=>Nat.le_trans (dPut_pos m d).1 (dueBy_grow l (dPut m d))
theorem dueBy_pos {l:List Due} (h:l.length≠0):1≤(dueBy l).length:=by
  cases l with
  | nil=>exact absurd rfl h
  | cons d l=>exact Nat.le_trans (dPut_pos [] d).2 (dueBy_grow l (dPut [] d))
end Go.Sak
namespace Go.Sak
open Go Go.RowKit
set_option linter.unusedVariables false
set_option linter.unusedSimpArgs false
theorem dFind_none {k:Int}:∀ {l:List Due},(∀ x,x∈l→x.id≠k)→dFind l k=none
  | [],_=>rfl
  | d :: l,h=>by
    simp only [dFind]
    rw [if_neg (fun e=>h d (List.mem_cons_self ..) e.symm),dFind_none (fun x hx=>h x (List.mem_cons_of_mem _ hx))]
    rfl
theorem dFind_some {k:Int}:∀ {l:List Due},(∃ x,x∈l∧x.id=k)→∃ r,dFind l k=some r
  | [],⟨x,hx,_⟩=>by cases hx
  | d :: l,⟨x,hx,e⟩=>by
    simp only [dFind]
    by_cases h:k=d.id
    · exact ⟨_,if_pos h⟩
    · rw [if_neg h]
      rcases List.mem_cons.1 hx with rfl | hx
      · exact absurd e.symm h
      · obtain ⟨r,hr⟩:=dFind_some ⟨x,hx,e⟩
        rw [hr]; exact ⟨_,rfl⟩
theorem dHas_iff {l:List Due} {k:Int}:dHas l k=true↔∃ x,x∈l∧x.id=k:=by
  unfold dHas
  constructor
  · intro h
    refine Classical.byContradiction fun hn=>?_
    rw [dFind_none (fun x hx e=>hn ⟨x,hx,e⟩)] at h
    cases h
  · intro h
    obtain ⟨r,hr⟩:=dFind_some h
    rw [hr]; rfl
theorem foldPut:∀ (l m:List Due),((m ++ l).map (·.id)).Nodup→l.foldl dPut m=m ++ l
  | [],m,_=>by simp
  | d :: l,m,h=>by
    have h2:∀ x,x∈m→x.id≠d.id:=fun x hx e=>by
      rw [List.map_append,List.nodup_append] at h
      exact h.2.2 x.id (List.mem_map.2 ⟨x,hx,rfl⟩) d.id (by simp) e
    have h3:dPut m d=m ++ [d]:=by unfold dPut; rw [dFind_none h2]
    rw [List.foldl_cons,h3,foldPut l (m ++ [d]) (by simpa using h)]
    simp
theorem dueBy_self {l:List Due} (h:(l.map (·.id)).Nodup):dueBy l=l:=(foldPut l [] (by simpa using h)).trans (by simp)
theorem dAhead_trans {a b c:Due} (h:dAhead a b=true) (k:dAhead b c=true):dAhead a c=true:=by
  rw [dAhead_iff] at *; omega
theorem dOk_iff {l:List Due} {i:Nat}:dOkAt l i=true↔dTime (l.getD i default).tm=true∧dId (l.getD i default).id=true∧(∀ x,x∈l.take i→x.id≠(l.getD i default).id)∧(i=0∨dAhead (l.getD (i - 1) default) (l.getD i default)=true):=by
  simp only [dOkAt,Bool.and_eq_true,Bool.not_eq_true',Bool.or_eq_true,decide_eq_true_eq,List.any_eq_false,and_assoc]
theorem getD_at {l:List Due} {i:Nat} (h:i<l.length):l.getD i default=l[i]:=by simp [h]
theorem dueCheck_iff {l:List Due}:dueCheck l=true↔(∀ x,x∈l→dTime x.tm=true∧dId x.id=true)∧(l.map (·.id)).Nodup∧l.Pairwise (fun a b=>dAhead a b=true):=by
  have h0:dueCheck l=true↔∀ i,i<l.length→dOkAt l i=true:=by
    simp only [dueCheck,List.all_eq_true,List.mem_range]
  rw [h0]
  constructor
  · intro h
    refine ⟨fun x hx=>?_,?_,?_⟩
    · obtain ⟨i,hi,rfl⟩:=List.getElem_of_mem hx
      have:=dOk_iff.1 (h i hi)
      rw [getD_at hi] at this
      exact ⟨this.1,this.2.1⟩
    · refine List.pairwise_map.2 (List.pairwise_iff_getElem.2 fun i j hi hj hij=>?_)
      have:=(dOk_iff.1 (h j hj)).2.2.1 l[i] (by
        refine List.mem_iff_getElem?.2 ⟨i,?_⟩
        rw [List.getElem?_take,if_pos hij,List.getElem?_eq_getElem hi])
      rwa [getD_at hj] at this
    · rw [List.pairwise_iff_getElem]
      intro i j hi hj hij
      induction j with
      | zero=>omega
      | succ j ih =>
        have h1:=(dOk_iff.1 (h (j+1) hj)).2.2.2
        rcases h1 with h1 | h1
        · omega
        · rw [getD_at hj,Nat.add_sub_cancel,getD_at (by omega)] at h1
          by_cases e:i=j
          · subst e; exact h1
          · exact dAhead_trans (ih (by omega) (by omega)) h1
  · rintro ⟨h1,h2,h3⟩ i hi
    rw [dOk_iff,getD_at hi]
    obtain ⟨q1,q2⟩:=h1 l[i] (List.getElem_mem hi)
    refine ⟨q1,q2,fun x hx e=>?_,?_⟩
    · obtain ⟨j,hj⟩:=List.mem_iff_getElem?.1 hx
      rw [List.getElem?_take] at hj
      split at hj
      · rename_i hji
        obtain ⟨hj1,hj2⟩:=List.getElem?_eq_some_iff.1 hj
        have:=List.pairwise_iff_getElem.1 (List.pairwise_map.1 h2) j i hj1 hi hji
        rw [hj2] at this
        exact this e
      · cases hj
    · by_cases e:i=0
      · exact .inl e
      · right
        rw [getD_at (by omega)]
        exact List.pairwise_iff_getElem.1 h3 (i - 1) i (by omega) hi (by omega)
theorem due_sorted {l:List Due} (h:dueCheck l=true):dSort l=l:=by
  obtain ⟨_,_,h3⟩:=dueCheck_iff.1 h
  exact (dSort_of (.refl _) (h3.imp fun h=>dAhead_le h)).symm
theorem due_by {l:List Due} (h:dueCheck l=true):dueBy l=l:=dueBy_self (dueCheck_iff.1 h).2.1
theorem sort_check {l:List Due} (h1:∀ x,x∈l→dTime x.tm=true∧dId x.id=true) (h2:(l.map (·.id)).Nodup):dueCheck (dSort l)=true:=by
  have hp:=dSort_perm l
  have hn:((dSort l).map (·.id)).Nodup:=(hp.map _).nodup_iff.2 h2
  refine dueCheck_iff.2 ⟨fun x hx=>h1 x (hp.mem_iff.1 hx),hn,?_⟩
  have hs:=dSort_pw l
  have hd:(dSort l).Pairwise (fun a b=>a.id≠b.id):=List.pairwise_map.1 hn
  refine (hs.and hd).imp fun {a b} h=>?_
  obtain ⟨h,k⟩:=h
  rw [dLe_iff] at h; rw [dAhead_iff]; omega
theorem put_ok {l:List Due} {d:Due} (h:dueCheck l=true) (ht:dTime d.tm=true) (hi:dId d.id=true) (hn:∀ x,x∈l→x.id≠d.id):duePut l d=(dSort (l ++ [d]),0)∧dueCheck (dSort (l ++ [d]))=true:=by
  obtain ⟨h1,h2,h3⟩:=dueCheck_iff.1 h
  have hb:=due_by h
  refine ⟨?_,sort_check (fun x hx=>?_) ?_⟩
  · unfold duePut
    rw [if_neg (by rw [h]; decide),if_neg (by rw [ht]; decide),if_neg (by rw [hi]; decide),hb,if_neg (fun hh=>by
      obtain ⟨x,hx,e⟩:=dHas_iff.1 hh
      exact hn x hx e)]
    unfold dPut
    rw [dFind_none hn]
  · rcases List.mem_append.1 hx with hx | hx
    · exact h1 x hx
    · rw [List.mem_singleton.1 hx]; exact ⟨ht,hi⟩
  · rw [List.map_append,List.nodup_append]
    refine ⟨h2,by simp,fun a ha b hb=>?_⟩
    obtain ⟨x,hx,rfl⟩:=List.mem_map.1 ha
    simp at hb; subst hb
    exact hn x hx
theorem first_ok {l:List Due} (h:dueCheck l=true) (hl:l.length≠0):dueFirst l=(l.getD 0 default,true):=by
  unfold dueFirst
  rw [if_neg (by rintro (e | e); · rw [h] at e; cases e
                 · exact hl e),due_by h,due_sorted h]
end Go.Sak
