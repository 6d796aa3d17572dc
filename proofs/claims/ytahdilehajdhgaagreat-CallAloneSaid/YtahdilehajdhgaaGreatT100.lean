/- Part T100 of the proofs about the program: Zd, Ev. Conditions: none. -/
import Derived.Test.YtahdilehajdhgaaGreatT03
open Go.Sak.AM renaming get→J1,get_of_mem→O5,mem_of_get→J2
open Bool renaming and_eq_true→E0,false_eq_true→G1,not_eq_true'→M9,or_eq_true→I1
open List renaming all_eq_true→G5,append_nil→N4,contains_iff_mem→H7,filter_cons→R9,getD_eq_getElem?_getD→E7,map_congr_left→O8,map_map→R8,mem_append→O0,mem_cons_of_mem→H9,mem_cons_self→J8,mem_filter→P2,mem_map→G6,nil_append→J0
open Nat renaming beq→j0,eq_of_beq_eq_true→S5,le_of_ble_eq_true→M5,le_refl→G2,ne_of_beq_eq_false→X2
open Option renaming isSome_iff_exists→G3
open Option.some renaming injEq→F0
namespace Go.Sak
open Go Go.RowKit
set_option linter.unusedVariables false
set_option linter.unusedSimpArgs false
section
variable {P:Program} {κ:Ef→Prop} {m:AM} {b:Nat}
theorem sR {b0:Nat} {m0 m2:AM} {v v':AV} (Z:List Nat) (ren:List (Nat×Nat)) (k1:stOk b0 (b0+15) Z ren m=true) (k2:fS m Z=true) (h2:stM b0 (b0+15) Z ren (stT b0 (b0+15) Z ren m) m=m2)
    (hnd:(m2.map (·.1)).Nodup) (hv:v.tr (stT b0 (b0+15) Z ren m)=v'):gN b0 m0 (v',inlU m0 m2,[]) v m b:=by
  have hs:=SubS.step (env:=[v]) (b:=b) k1 k2
  rw [h2] at hs
  exact ⟨v',m2,b0+16,by rw [← hv]; exact hs,G2 _,mQ hnd,rfl⟩
theorem KY {b0:Nat} {m0 m2:AM} {v v':AV} (Z:List Nat) (ren:List (Nat×Nat)) (k1:stOk b0 (b0+15) Z ren m=true) (k2:fS m Z=true) (h2:stM b0 (b0+15) Z ren (stT b0 (b0+15) Z ren m) m=m2)
    (hnd:(m2.map (·.1)).Nodup) (hv:Wk (v.tr (stT b0 (b0+15) Z ren m)) v'):gN b0 m0 (v',inlU m0 m2,[]) v m b:=by
  have hs:=SubS.step (env:=[v]) (b:=b) k1 k2
  rw [h2] at hs
  exact ⟨v',m2,b0+16,hs.trans (SubS.weak hv),G2 _,mQ hnd,rfl⟩
theorem AC.mb {M m2:AM} {f:FuncId} {args:List AV} {v:AV} (B0:Nat) (h:sE P f args (v,inlU m m2,[]) m.get B0) (h1:1≤B0) (hb:B0≤b) (hM:jZ M (reachM M (fA 1 (jM args) []))=m) (hnd:(m.map (·.1)).Nodup)
    (h0:m.all (fun p=>decide (p.1<B0 - 1) && p.2.inN (m.map (·.1)))=true) (hargs:jY (m.map (·.1)) args=true) (k3:m2.all (fun p=>decide (p.1<B0+15) && (decide (B0≤p.1) || (m.map (·.1)).contains p.1))=true)
    (k4:κ (v.tr (mV B0 b),(inlU m m2).map (rH B0 b),m.map (·.1))):AC P f args M b κ:=by
  have hlt:∀ n B,m.get n=some B→n<B0 - 1:=fun n B hB=>by
    have:=G5.1 h0 _ (J2 hB)
    simp only [E0,decide_eq_true_eq] at this
    exact this.1
  have hks:∀ n,n∈m.map (·.1)↔(m.get n).isSome=true:=fun n=>⟨fun hm=>by
    obtain ⟨⟨k,B⟩,hk,rfl⟩:=G6.1 hm
    rw [O5 hnd hk]; rfl,fun hs=>by
    obtain ⟨B,hB⟩:=G3.1 hs
    exact G6.2 ⟨(n,B),J2 hB,rfl⟩⟩
  have:=mU (kz:=false) (Z:=[]) (args':=args) (m:=M.get) h h1 hb (fun n B hB=>⟨hlt n B hB,tZ hM (J2 hB)⟩) hks (fun T hT' n B hB=>?_) (fun g hg=>by cases hg) ?_ (fun p hp=>?_) (.inr (.inl rfl))
  · refine ⟨_,this,?_⟩
    simp only [lV,J0,G1,if_false,N4]
    exact k4
  · have hB':=G5.1 h0 _ (J2 hB)
    simp only [E0] at hB'
    exact Blk.tr_inN (fun g hg=>hT' g ((hks g).1 hg)) hB'.2
  · refine jE (fun g hg=>?_) args hargs
    have hc:(m.map (·.1)).contains g=true:=H7.2 hg
    exact ⟨fun r o=>by simp only [rJ,hc]; simp,fun l=>by simp only [rJ,hc]; simp,by simp only [rJ,hc]; simp⟩
  · simp only [inlU] at hp
    rcases O0.1 hp with hp | hp
    · obtain ⟨q,hq,rfl⟩:=G6.1 hp
      have hg:=O5 hnd hq
      have:=hlt q.1 q.2 hg
      exact ⟨by simp only []; omega,fun _=>by simp only [hg]; rfl⟩
    · obtain ⟨q,hq,rfl⟩:=G6.1 hp
      have:=G5.1 k3 q hq
      simp only [E0,I1,decide_eq_true_eq,H7] at this
      refine ⟨this.1,fun hb=>?_⟩
      rcases this.2 with r | r
      · simp only [] at hb; omega
      · exact (hks _).1 r
theorem AC.mc {M m' m2:AM} {f:FuncId} {args:List AV} {v:AV} (B0:Nat) (h:sE P f args (v,inlU m m2,[]) m.get B0) (h1:1≤B0) (hb:B0≤b) (hM:jZ M (reachM M (fA 1 (jM args) []))=m') (hm:m'=m) (hnd:(m.map (·.1)).Nodup)
    (h0:m.all (fun p=>decide (p.1<B0 - 1) && p.2.inN (m.map (·.1)))=true) (hargs:jY (m.map (·.1)) args=true) (k3:m2.all (fun p=>decide (p.1<B0+15) && (decide (B0≤p.1) || (m.map (·.1)).contains p.1))=true)
    (k4:κ (v.tr (mV B0 b),(inlU m m2).map (rH B0 b),m.map (·.1))):AC P f args M b κ:=AC.mb B0 h h1 hb (hM.trans hm) hnd h0 hargs k3 k4
end

mutual
/-- Two values are one (values without names). -/
def AV.same:AV→AV→Bool
  | .int k a,.int k' b=>decide (k=k') && decide (a=b)
  | .bool a,.bool b=>a == b
  | .nilp,.nilp=>true
  | .slnil,.slnil=>true
  | .mapnil,.mapnil=>true
  | .fnnil,.fnnil=>true
  | .ifnil,.ifnil=>true
  | .sle s,.sle t=>decide (s=t)
  | .slv s r,.slv t q=>decide (s=t) && vP r q
  | .agg a,.agg b=>tC a b
  | .tup a,.tup b=>tC a b
  | .ptr g r o,.ptr g' r' o'=>decide (g=g') && decide (r=r') && decide (o=o')
  | .slm g l,.slm g' l'=>decide (g=g') && decide (l=l')
  | .mapm g,.mapm g'=>decide (g=g')
  | .pv a,.pv b=>tC a b
  | .fn f a c,.fn f' a' c'=>decide (f=f') && tC a a' && tC c c'
  | .iface t x,.iface t' y=>decide (t=t') && x.same y
  | _,_=>false
def tC:List AV→List AV→Bool
  | [],[]=>true
  | x :: l,y :: q=>x.same y && tC l q
  | _,_=>false
def vP:List (List AV)→List (List AV)→Bool
  | [],[]=>true
  | x :: l,y :: q=>tC x y && vP l q
  | _,_=>false
end
mutual
theorem AV.same_eq:∀ (x y:AV),x.same y=true→x=y
  | .int k a,y,h=>by cases y <;> simp [AV.same] at h; rw [h.1,h.2]
  | .bool a,y,h=>by cases y <;> simp [AV.same] at h; rw [h]
  | .nilp,y,h=>by cases y <;> simp [AV.same] at h; rfl
  | .slnil,y,h=>by cases y <;> simp [AV.same] at h; rfl
  | .mapnil,y,h=>by cases y <;> simp [AV.same] at h; rfl
  | .fnnil,y,h=>by cases y <;> simp [AV.same] at h; rfl
  | .ifnil,y,h=>by cases y <;> simp [AV.same] at h; rfl
  | .sle s,y,h=>by cases y <;> simp [AV.same] at h; rw [h]
  | .slv s r,y,h=>by cases y <;> simp [AV.same] at h; rw [h.1,yR _ _ h.2]
  | .agg a,y,h=>by cases y <;> simp [AV.same] at h; rw [nX _ _ h]
  | .tup a,y,h=>by cases y <;> simp [AV.same] at h; rw [nX _ _ h]
  | .str _,y,h=>by cases y <;> simp [AV.same] at h
  | .ptr _ _ _,y,h=>by cases y <;> simp [AV.same] at h; rw [h.1.1,h.1.2,h.2]
  | .pv a,y,h=>by cases y <;> simp [AV.same] at h; rw [nX _ _ h]
  | .slm _ _,y,h=>by cases y <;> simp [AV.same] at h; rw [h.1,h.2]
  | .mapm _,y,h=>by cases y <;> simp [AV.same] at h; rw [h]
  | .fn _ a c,y,h=>by cases y <;> simp [AV.same] at h; rw [h.1.1,nX _ _ h.1.2,nX _ _ h.2]
  | .iface _ x,y,h=>by cases y <;> simp [AV.same] at h; rw [h.1,AV.same_eq _ _ h.2]
  | .und,y,h=>by cases y <;> simp [AV.same] at h
theorem nX:∀ (x y:List AV),tC x y=true→x=y
  | [],y,h=>by cases y <;> simp [tC] at h; rfl
  | a :: l,y,h=>by
    cases y with
    | nil=>simp [tC] at h
    | cons b q=>simp only [tC,E0] at h; rw [AV.same_eq a b h.1,nX l q h.2]
theorem yR:∀ (x y:List (List AV)),vP x y=true→x=y
  | [],y,h=>by cases y <;> simp [vP] at h; rfl
  | a :: l,y,h=>by
    cases y with
    | nil=>simp [vP] at h
    | cons b q=>simp only [vP,E0] at h; rw [nX a b h.1,yR l q h.2]
end
def Fa:List (AV×AV)→List (AV×AV)→Bool
  | [],[]=>true
  | x :: l,y :: q=>x.1.same y.1 && x.2.same y.2 && Fa l q
  | _,_=>false
theorem Js:∀ (x y:List (AV×AV)),Fa x y=true→x=y
  | [],y,h=>by cases y <;> simp [Fa] at h; rfl
  | a :: l,y,h=>by
    cases y with
    | nil=>simp [Fa] at h
    | cons b q =>
      simp only [Fa,E0] at h
      rw [Js l q h.2,show a=b from Prod.ext (AV.same_eq _ _ h.1.1) (AV.same_eq _ _ h.1.2)]
def Blk.same:Blk→Blk→Bool
  | .rows t s r,.rows t' s' r'=>decide (t=t') && decide (s=s') && vP r r'
  | .mp e,.mp e'=>Fa e e'
  | _,_=>false
theorem Blk.same_eq (x y:Blk) (h:x.same y=true):x=y:=by
  cases x <;> cases y <;> simp [Blk.same] at h
  · rw [h.1.1,h.1.2,yR _ _ h.2]
  · rw [Js _ _ h]
def VP (m:AM) (p:Nat×Blk):Bool:=match m.get p.1 with
  | some B=>!(B.same p.2)
  | none=>true
def AP (m m2:AM):List (Nat×Option Blk):=((m.map (·.1)).filter fun g=>!(m2.map (·.1)).contains g).map (fun g=>(g,none)) ++ (m2.filter (VP m)).map fun p=>(p.1,some p.2)
theorem Bz {q:Nat×Blk→Bool}:∀ {m:AM} {n:Nat},(m.map (·.1)).Nodup→J1 (m.filter q) n=(match m.get n with | some B=>if q (n,B) then some B else none | none=>none)
  | [],n,_=>rfl
  | (k,B) :: l,n,h=>by
    simp only [List.map_cons,List.nodup_cons] at h
    have ih:=Bz (q:=q) (n:=n) h.2
    by_cases hn:n=k
    · subst hn
      have h0:J1 l n=none:=zH h.1
      rw [h0] at ih
      simp only [R9,J1,if_pos]
      by_cases hq:q (n,B)=true
      · rw [if_pos hq,if_pos hq]; simp [J1]
      · rw [if_neg hq,if_neg hq]; exact ih
    · simp only [R9,J1,if_neg hn]
      split
      · simp only [J1,if_neg hn]; exact ih
      · exact ih
theorem DV {m m2:AM} (h:(m2.map (·.1)).Nodup):m2.get=(m.upd (AP m m2)).get:=by
  rw [AM.get_upd]
  funext n
  unfold AP
  have h2:((m2.filter (VP m)).map (·.1)).Nodup:=h.sublist (List.filter_sublist.map _)
  rw [oC,Da h2,Bz h,xI]
  have hks : ∀ (M:AM),n∈M.map (·.1)↔(M.get n).isSome=true:=fun M=>⟨fun hm=>by
    cases hg:M.get n with
    | some B=>rfl
    | none =>
      exfalso
      have : ∀ (M:AM),n∈M.map (·.1)→M.get n=none→False:=by
        intro M
        induction M with
        | nil=>intro h; cases h
        | cons p l ih =>
          obtain ⟨k,B⟩:=p
          intro h1 h2
          simp only [J1] at h2
          split at h2
          · cases h2
          · rename_i hk
            rcases List.mem_cons.1 h1 with h1 | h1
            · exact hk h1
            · exact ih h1 h2
      exact this M hm hg,fun hs=>by
    obtain ⟨B,hB⟩:=G3.1 hs
    exact G6.2 ⟨(n,B),J2 hB,rfl⟩⟩
  cases hg:m2.get n with
  | none =>
    simp only []
    split
    · rfl
    · rename_i hn
      cases hm:m.get n with
      | none=>rfl
      | some B =>
        exfalso
        refine hn (P2.2 ⟨(hks m).2 (by rw [hm]; rfl),?_⟩)
        have:¬ n∈m2.map (·.1):=fun hh=>by have:=(hks m2).1 hh; rw [hg] at this; cases this
        simpa using this
  | some B =>
    simp only []
    by_cases hc:VP m (n,B)=true
    · rw [if_pos hc]
    · rw [if_neg hc]
      simp only []
      have hin:n∈m2.map (·.1):=(hks m2).2 (by rw [hg]; rfl)
      rw [if_neg (fun hh=>by
        have:=(P2.1 hh).2
        rw [H7.2 hin] at this; cases this)]
      unfold VP at hc
      simp only [] at hc
      split at hc
      · rename_i B' hB'
        rw [hB']
        simp only [M9,Bool.not_eq_false] at hc
        rw [Blk.same_eq _ _ hc]
      · exact absurd rfl hc
theorem Na {m m2:AM} {p:Nat×Option Blk} (h:p∈AP m m2):(p.2=none∧p.1∈m.map (·.1))∨∃ B,p.2=some B∧(p.1,B)∈m2:=by
  unfold AP at h
  rcases O0.1 h with h | h
  · obtain ⟨g,hg,rfl⟩:=G6.1 h
    exact .inl ⟨rfl,(P2.1 hg).1⟩
  · obtain ⟨q,hq,rfl⟩:=G6.1 h
    exact .inr ⟨q.2,rfl,(P2.1 hq).1⟩
def inlE (b:Nat) (m:AM) (κ:Ef→Prop) (v:AV) (m':AM) (b':Nat):Prop:=∃ ren,stOk b (b+15) [] ren m'=true ∧
  inlOk b m [] ren (v.tr (stT b (b+15) [] ren m')) (stM b (b+15) [] ren (stT b (b+15) [] ren m') m')=true ∧
  κ (v.tr (stT b (b+15) [] ren m'),AP m (stM b (b+15) [] ren (stT b (b+15) [] ren m') m'),m.map (·.1))
mutual
/-- What is said of one value is said of another one: empty slices are seen as such. -/
def AV.fit:AV→AV→Bool
  | .slnil,.slv _ []=>true
  | .sle _,.slv _ []=>true
  | .slv _ [],.slv _ []=>true
  | .agg a,.agg b=>Gn a b
  | .tup a,.tup b=>Gn a b
  | x,y=>x.same y
def Gn:List AV→List AV→Bool
  | [],[]=>true
  | x :: l,y :: q=>x.fit y && (!x.one || y.one) && Gn l q
  | _,_=>false
end
theorem Wk.sleT (s t:Nat):Wk (.sle s) (.slv t []):=fun _ _ h=>by cases h with | sle _ a cap hc=>exact .slve t a cap hc
theorem Wk.slv0 (s t:Nat):Wk (.slv s []) (.slv t []):=fun _ _ h=>by
  cases h with
  | slv0=>exact .slv0 t
  | slve _ a cap hc=>exact .slve t a cap hc
  | slvs _ rows a cap us h0=>exact absurd rfl h0
mutual
theorem AV.fit_wk:∀ (x y:AV),x.fit y=true→Wk x y:=fun x y h=>by
  unfold AV.fit at h
  split at h
  · exact Wk.nil _
  · exact Wk.sleT _ _
  · exact Wk.slv0 _ _
  · exact Wk.agg (wP _ _ h)
  · exact Wk.tup (wP _ _ h)
  · exact Wk.of_eq (AV.same_eq _ _ h)
theorem wP:∀ (x y:List AV),Gn x y=true→Wks x y
  | [],y,h=>by cases y <;> simp [Gn] at h; trivial
  | a :: l,y,h=>by
    cases y with
    | nil=>simp [Gn] at h
    | cons b q =>
      simp only [Gn,E0,I1,M9] at h
      refine ⟨AV.fit_wk a b h.1.1,fun h1=>?_,wP l q h.2⟩
      rcases h.1.2 with h2 | h2
      · rw [h1] at h2; cases h2
      · exact h2
end
theorem Nm {P:Program} {f:FuncId} {xs ys:List AV} {e:Ef} (hw:Wks xs ys) (h:cX P f ys e):cX P f xs e:=by
  obtain ⟨h1,h2⟩:=hw.at
  refine ⟨h.1,fun c hc hm hU vs hvs=>h.2 c hc hm hU vs ⟨h1 ▸ hvs.1,fun i y hi=>?_⟩⟩
  obtain ⟨x,q1,q2,_⟩:=h2 i y hi
  exact q2 _ _ (hvs.2 i x q1)

section
variable {P:Program} {κ:Ef→Prop} {m:AM} {b:Nat}
theorem AC.inlE {M:AM} {f:FuncId} {A:AFn} {args:List AV} (hmix:P.follows .mixedOrders=true) (hA:xf P f=some A) (hn:args.length≤A.n) (h1:1≤b) (hM:jZ M (reachM M (fA 1 (jM args) []))=m) (hnd:(m.map (·.1)).Nodup) (h0:m.all (fun p=>decide (p.1<b - 1) && p.2.inN (m.map (·.1)))=true)
    (hargs:jY (m.map (·.1)) args=true) (h:∃ l m' b',inlE b m κ (iG l) m' b'∧∀ e,gN b m e (iG l) m' b'→vc P b A.code (gQ A.res (gN b m e)) (args ++ List.replicate (A.n - args.length) .und) m b):AC P f args M b κ:=by
  obtain ⟨l,m',b',⟨ren,k1,k3,k4⟩,hall⟩:=h
  generalize hv':(iG l).tr (stT b (b+15) [] ren m')=v' at k3 k4
  generalize hm2:stM b (b+15) [] ren (stT b (b+15) [] ren m') m'=m2 at k3 k4
  simp only [inlOk,E0,decide_eq_true_eq,G5] at k3
  obtain ⟨⟨q1,q2⟩,q3⟩:=k3
  have hs:=SubS.step (env:=[iG l]) (b:=b') k1 (rfl:fS m' []=true)
  rw [hm2] at hs
  have hmcb:sE P f args (v',AP m m2,[]) m.get b:=aI hmix hA hn fun _ _=>hall _ ⟨v',m2,b+16,by rw [← hv']; exact hs,G2 _,DV q1,rfl⟩
  have hlt:∀ n B,m.get n=some B→n<b - 1:=fun n B hB=>by
    have:=G5.1 h0 _ (J2 hB)
    simp only [E0,decide_eq_true_eq] at this
    exact this.1
  have hks:∀ n,n∈m.map (·.1)↔(m.get n).isSome=true:=fun n=>⟨fun hm=>by
    obtain ⟨⟨k,B⟩,hk,rfl⟩:=G6.1 hm
    rw [O5 hnd hk]; rfl,fun hs=>by
    obtain ⟨B,hB⟩:=G3.1 hs
    exact G6.2 ⟨(n,B),J2 hB,rfl⟩⟩
  have fixU:∀ g,g∈m2.map (·.1)→jS b b g=g:=by
    intro g hg
    obtain ⟨p,hp,rfl⟩:=G6.1 hg
    have:=q2 p hp
    simp only [I1,decide_eq_true_eq,H7] at this
    obtain ⟨⟨r1,r2⟩,_⟩:=this
    unfold jS
    by_cases hb:p.1<b
    · rcases r2 with r2 | r2
      · omega
      · obtain ⟨B,hB⟩:=G3.1 ((hks _).1 r2)
        have:=hlt _ B hB
        rw [if_pos hb,if_neg (by omega)]
    · rw [if_neg hb,if_pos r1]; omega
  have hT:∀ g,g∈m2.map (·.1)→(mV b b).fixes g:=fun g hg=>⟨fun r o=>by show AV.ptr (jS b b g) r o=_; rw [fixU g hg],fun l=>by show AV.slm (jS b b g) l=_; rw [fixU g hg],by show AV.mapm (jS b b g)=_; rw [fixU g hg]⟩
  have hupsm:(AP m m2).map (rH b b)=AP m m2:=by
    conv=>rhs; rw [← List.map_id (AP m m2)]
    refine O8 fun p hp=>?_
    obtain ⟨g,ob⟩:=p
    rcases Na hp with ⟨h1,h2⟩ | ⟨B,h1,h2⟩
    · simp only at h1 h2
      subst h1
      obtain ⟨B,hB⟩:=G3.1 ((hks _).1 h2)
      have:=hlt _ B hB
      simp only [rH,id_eq,Option.map_none,Prod.mk.injEq,and_true]
      unfold jS
      rw [if_pos (by omega),if_neg (by omega)]
    · simp only at h1 h2
      subst h1
      have:=q2 _ h2
      simp only [rH,id_eq,Option.map_some,fixU g (G6.2 ⟨_,h2,rfl⟩)]
      rw [Blk.tr_inN hT this.2]
  have:=mU (kz:=false) (Z:=[]) (args':=args) (m:=M.get) hmcb h1 (G2 b) (fun n B hB=>⟨hlt n B hB,tZ hM (J2 hB)⟩) hks (fun T hT' n B hB=>?_) (fun g hg=>by cases hg) ?_ (fun p hp=>?_) (.inr (.inl rfl))
  · refine ⟨_,this,?_⟩
    rw [AV.tr_inN hT _ q3]
    simp only [lV,J0,G1,if_false,hupsm,N4]
    exact k4
  · have hB':=G5.1 h0 _ (J2 hB)
    simp only [E0] at hB'
    exact Blk.tr_inN (fun g hg=>hT' g ((hks g).1 hg)) hB'.2
  · refine jE (fun g hg=>?_) args hargs
    have hc:(m.map (·.1)).contains g=true:=H7.2 hg
    exact ⟨fun r o=>by simp only [rJ,hc]; simp,fun l=>by simp only [rJ,hc]; simp,by simp only [rJ,hc]; simp⟩
  · obtain ⟨g,ob⟩:=p
    rcases Na hp with ⟨h1,h2⟩ | ⟨B,h1,h2⟩
    · simp only at h2 ⊢
      obtain ⟨B,hB⟩:=G3.1 ((hks _).1 h2)
      have:=hlt _ B hB
      exact ⟨by omega,fun _=>by rw [hB]; rfl⟩
    · simp only at h1 h2 ⊢
      have:=q2 _ h2
      simp only [I1,decide_eq_true_eq,H7] at this
      refine ⟨this.1.1,fun hb=>?_⟩
      rcases this.1.2 with r | r
      · omega
      · exact (hks _).1 r
end

structure OE where
  f:Nat
  args:List AV
  v:AV
def GF (f:Nat) (xs:List AV):List OE→Option AV
  | []=>none
  | o :: l=>match j0 o.f f && Gn xs o.args with
    | true=>some o.v
    | false=>GF f xs l
def GH (L:List OE) (f:Nat) (args:List AV) (m:AM) (b:Nat):Option Ef :=
  match L.any (fun o=>j0 o.f f) with
  | false=>none
  | true=>match GF f (trs (rJ m.get [] 1 (fA 1 (jM args) [])) args) L with
    | none=>none
    | some v=>match decide (1≤b) && fS m (fA 1 (jM args) []) && v.pure with
      | true=>some (v,(fA 1 (jM args) []).map (fun g=>(g,none)),fA 1 (jM args) [])
      | false=>none
def LJ:List (Nat×AFn)→Nat→Option AFn
  | [],_=>none
  | p :: l,f=>match j0 p.1 f with
    | true=>some p.2
    | false=>LJ l f

abbrev EV:=List (Nat×AV)
def EV.get:EV→Nat→AV
  | [],_=>.und
  | p :: l,t=>match j0 p.1 t with
    | true=>p.2
    | false=>EV.get l t
def wL:Nat→List AV→EV
  | _,[]=>[]
  | i,x :: l=>(i,x) :: wL (i+1) l
def Opd.evE (E:EV):Opd→AV
  | .tmp t=>E.get t
  | .const x=>x
  | .func f=>.fn (.func f) [] []
def Opd.lit (E:EV) (x:Opd):Opd:=.const (x.evE E)
def AOp.lit (E:EV):AOp→AOp
  | .mv x=>.mv (x.lit E)
  | .pick c a b=>.pick (c.lit E) (a.lit E) (b.lit E)
  | .ext x i=>.ext (x.lit E) i
  | .not x=>.not (x.lit E)
  | .bin op x y=>.bin op (x.lit E) (y.lit E)
  | .eqb n x y=>.eqb n (x.lit E) (y.lit E)
  | .eqs n ks x y=>.eqs n ks (x.lit E) (y.lit E)
  | .eqn n x=>.eqn n (x.lit E)
  | .conv k x=>.conv k (x.lit E)
  | .faddr o x=>.faddr o (x.lit E)
  | .fld o n a x=>.fld o n a (x.lit E)
  | .iaddr s x i=>.iaddr s (x.lit E) (i.lit E)
  | .aaddr l s x i=>.aaddr l s (x.lit E) (i.lit E)
  | .nilchk x=>.nilchk (x.lit E)
  | .build z ps=>.build z (ps.map fun p=>(p.1,p.2.1,p.2.2.lit E))
  | .mkfn f a b=>.mkfn f (a.map (·.lit E)) (b.map (·.lit E))
  | .mkif t x=>.mkif t (x.lit E)
  | .tassert t ok x=>.tassert t ok (x.lit E)
  | .slc s x lo hi=>.slc s (x.lit E) (lo.map (·.lit E)) (hi.map (·.lit E))
  | .len x=>.len (x.lit E)
  | .mn x y=>.mn (x.lit E) (y.lit E)
  | .mx x y=>.mx (x.lit E) (y.lit E)
  | .app t s z x y=>.app t s z (x.lit E) (y.lit E)
  | .cpy s x y=>.cpy s (x.lit E) (y.lit E)
  | .ld n a x=>.ld n a (x.lit E)
  | .st n x y=>.st n (x.lit E) (y.lit E)
  | .lkp z ok x y=>.lkp z ok (x.lit E) (y.lit E)
  | .mupd x y z=>.mupd (x.lit E) (y.lit E) (z.lit E)
  | .mdel x y=>.mdel (x.lit E) (y.lit E)
  | .alloc t z=>.alloc t z
  | .box t x=>.box t (x.lit E)
  | .bslice t s n l=>.bslice t s n (l.map (·.lit E))
  | .mkmap=>.mkmap
  | .mkslice t s z k x y=>.mkslice t s z k (x.lit E) (y.lit E)
  | .call f l=>.call f l
  | .callv f l=>.callv f l
  | .invoke x tb l=>.invoke x tb l
def Rep (n:Nat) (E:EV) (env:List AV):Prop:=env.length=n∧∀ t,E.get t=env.getD t .und
theorem Rep.opd {n:Nat} {E:EV} {env:List AV} (h:Rep n E env) (x:Opd):x.evE E=x.eval env:=by
  cases x with
  | tmp t=>exact h.2 t
  | _=>rfl
theorem Rep.opds {n:Nat} {E:EV} {env:List AV} (h:Rep n E env) (l:List Opd):l.map (·.evE E)=l.map (·.eval env):=List.map_congr_left fun x _=>h.opd x
theorem Rep.lit {n:Nat} {E:EV} {env:List AV} (h:Rep n E env) (x:Opd):(x.lit E).eval []=x.eval env:=h.opd x
theorem Rep.lits {n:Nat} {E:EV} {env:List AV} (h:Rep n E env) (l:List Opd):(l.map (·.lit E)).map (·.eval [])=l.map (·.eval env):=by
  rw [R8]; exact O8 fun x _=>h.lit x
theorem Rep.lito {n:Nat} {E:EV} {env:List AV} (h:Rep n E env) (l:Option Opd):(l.map (·.lit E)).map (·.eval [])=l.map (·.eval env):=by
  cases l with
  | none=>rfl
  | some x=>simp [h.lit x]
theorem Rep.aop {n:Nat} {E:EV} {env:List AV} (h:Rep n E env) (m:Nat→Option Blk) (b:Nat) (x:AOp):aop m [] b (x.lit E)=aop m env b x:=by
  cases x <;> simp only [AOp.lit,Sak.aop,h.lit,h.lits,h.lito]
  rename_i z ps
  rw [R8]
  congr 2
  exact O8 fun p _=>by simp only [Function.comp,h.lit]
theorem Rep.set {n:Nat} {E:EV} {env:List AV} (h:Rep n E env) {d:Nat} (hd:d<n) (v:AV):Rep n ((d,v) :: E) (env.set d v):=by
  refine ⟨by rw [List.length_set]; exact h.1,fun t=>?_⟩
  simp only [EV.get]
  split
  · rename_i hb
    obtain rfl:=S5 hb
    rw [E7,List.getElem?_set_self (by rw [h.1]; exact hd)]
    rfl
  · rename_i hb
    rw [h.2,E7,E7,List.getElem?_set_ne (X2 hb)]
theorem Ee:∀ (l:List AV) (i t:Nat),i≤t→(wL i l).get t=l.getD (t - i) .und
  | [],i,t,h=>by simp [wL,EV.get]
  | x :: l,i,t,h=>by
    simp only [wL,EV.get]
    split
    · rename_i hb
      obtain rfl:=S5 hb
      simp
    · rename_i hb
      have hne:=X2 hb
      rw [Ee l (i+1) t (by omega),show t - i=(t - (i+1))+1 from by omega]
      simp
theorem Rep.enum {n:Nat} {args:List AV} (h:args.length≤n):Rep n (wL 0 args) (args ++ List.replicate (n - args.length) .und):=by
  refine ⟨by simp; omega,fun t=>?_⟩
  rw [Ee args 0 t (Nat.zero_le _),Nat.sub_zero,E7,E7]
  by_cases ht:t<args.length
  · rw [List.getElem?_append_left ht]
  · rw [List.getElem?_eq_none (by omega),List.getElem?_append_right (by omega),List.getElem?_replicate]
    split <;> rfl
def Oo (E:EV) (m:Nat→Option Blk):Nat×Option (Nat×Bool)→Option AV
  | (t,none)=>some (E.get t)
  | (a,some (n,agg))=>(cS m n agg (E.get a)).map (·.v)
def Jp (E:EV) (m:Nat→Option Blk):List (Nat×Option (Nat×Bool))→Option (List AV)
  | []=>some []
  | r :: l=>match Oo E m r,Jp E m l with
    | some x,some xs=>some (x :: xs)
    | _,_=>none
theorem Rep.resL {n:Nat} {E:EV} {env:List AV} (h:Rep n E env) (m:Nat→Option Blk):∀ l,Jp E m l=resL env m l
  | []=>rfl
  | r :: l=>by
    have h1:Oo E m r=Ha env m r:=by
      obtain ⟨a,o⟩:=r
      cases o with
      | none=>simp only [Oo,Ha,h.2]
      | some p=>obtain ⟨k,g⟩:=p; simp only [Oo,Ha,h.2]
    simp only [Jp,Sak.resL,h1,h.resL m l]
    cases Ha env m r <;> cases Sak.resL env m l <;> rfl

section
variable (call:FuncId→List AV→AM→Nat→Option Ef) (n:Nat)
def YA (x:AV) (as:List AV) (m:AM) (b:Nat):Option Ef:=match x with
  | .fn (.func g) first cap=>call g (first ++ as ++ cap) m b
  | _=>none
def XZ (tb:List (Nat×Nat)) (x:AV) (as:List AV) (m:AM) (b:Nat):Option Ef:=match x with
  | .iface t v=>match FW tb t with
    | some g=>call g (v :: as) m b
    | none=>none
  | _=>none
def VS (op:AOp) (E:EV) (m:AM) (b:Nat):Option Ef :=
  match op with
  | .call f args=>call f (args.map (·.evE E)) m b
  | .callv x args=>YA call (x.evE E) (args.map (·.evE E)) m b
  | .invoke x tb args=>XZ call tb (x.evE E) (args.map (·.evE E)) m b
  | x=>(aop m.get [] b (x.lit E)).map fun r=>(r.v,r.ups,r.rd)
def OT:Bool→AOp→EV→AM→Nat→Option Ef
  | true,op,E,m,b=>VS call op E m b
  | false,_,_,_,_=>some (.tup [],[],[])
def OS:AV→Bool→AOp→EV→AM→Nat→Option Ef
  | .bool t,want,op,E,m,b=>OT call (t == want) op E m b
  | .tup [],_,_,_,_,_=>some (.tup [],[],[])
  | _,_,_,_,_,_=>none
def VQ:Option (Nat×Bool)→AOp→EV→AM→Nat→Option Ef
  | none,op,E,m,b=>VS call op E m b
  | some (s,want),op,E,m,b=>OS call (E.get s) want op E m b
def Yv (E:EV):Option Nat→AV→Option EV
  | none,_=>some E
  | some d,v=>match Nat.blt d n with
    | true=>some ((d,v) :: E)
    | false=>none
def NC : List AO→EV→AM→Nat→Option (EV×AM×Nat)
  | [],E,m,b=>some (E,m,b)
  | o :: rest,E,m,b=>match VQ call o.guard o.op E m b with
    | some e=>match Yv n E o.dst e.1 with
      | some E'=>NC rest E' (m.upd e.2.1) (b+16)
      | none=>none
    | none=>none
def ND (un:List (Nat×Nat)):List AO→List Ef→EV→AM→Nat→Option (EV×AM×Nat)
  | [],tr,E,m,b=>match dynOk un tr.reverse with
    | true=>some (E,m,b)
    | false=>none
  | o :: rest,tr,E,m,b=>match VQ call o.guard o.op E m b with
    | some e=>match Yv n E o.dst e.1 with
      | some E'=>ND un rest (e :: tr) E' (m.upd e.2.1) (b+16)
      | none=>none
    | none=>none
abbrev Tq:=Ex×EV×AM×Nat
def VT:Option (EV×AM×Nat)→Option Tq
  | some r=>some (.normal,r)
  | none=>none
def Ff (f:EV→AM→Nat→Option Tq):Option Tq→Option Tq
  | some (.normal,E,m,b)=>f E m b
  | some (.exit i,r)=>some (.exit i,r)
  | some (.ret,r)=>some (.ret,r)
  | none=>none
def DO (i:Nat):Option Tq→Option Tq
  | some (.exit j,r)=>match j0 j i with
    | true=>some (.normal,r)
    | false=>some (.exit j,r)
  | some (.normal,r)=>some (.normal,r)
  | some (.ret,r)=>some (.ret,r)
  | none=>none
def Of (body:EV→AM→Nat→Option Tq) (b0:Nat):Nat→EV→AM→Nat→Option Tq
  | 0,_,_,_=>none
  | k+1,E,m,b=>match Nat.ble b0 b with
    | true=>Ff (Of body b0 k) (body E m b)
    | false=>none
def Aj (b0 k:Nat):ACode→EV→AM→Nat→Option Tq
  | .skip,E,m,b=>some (.normal,E,m,b)
  | .ret,E,m,b=>some (.ret,E,m,b)
  | .exit i,E,m,b=>some (.exit i,E,m,b)
  | .seq x y,E,m,b=>Ff (Aj b0 k y) (Aj b0 k x E m b)
  | .block i x,E,m,b=>DO i (Aj b0 k x E m b)
  | .cond c x y,E,m,b=>match c.evE E with
    | .bool true=>Aj b0 k x E m b
    | .bool false=>Aj b0 k y E m b
    | _=>none
  | .loop x,E,m,b=>Of (Aj b0 k x) b0 k E m b
  | .reg ops,E,m,b=>VT (NC call n ops E m b)
  | .regT ops un,E,m,b=>VT (ND call n un ops [] E m b)
def HZ (b:Nat) (m:AM) (l:List Nat):List Nat:=fA b (sW m l) l
def Mx (b:Nat) (v:AV) (m':AM):List (Nat×Nat):=Sk b (HZ b m' (HZ b m' (fA b (v.nms ++ Jk b m') [])))
def Ln (b:Nat) (m m':AM) (v:AV) (ren:List (Nat×Nat)):Option Ef :=
  match stOk b (b+15) [] ren m' && inlOk b m [] ren (v.tr (stT b (b+15) [] ren m')) (stM b (b+15) [] ren (stT b (b+15) [] ren m') m') with
  | true=>some (v.tr (stT b (b+15) [] ren m'),AP m (stM b (b+15) [] ren (stT b (b+15) [] ren m') m'),m.map (·.1))
  | false=>none
def LU (b:Nat) (m:AM) (res:List (Nat×Option (Nat×Bool))):Option Tq→Option Ef
  | none=>none
  | some (.exit _,_)=>none
  | some (_,env',m',_)=>match Jp env' m'.get res with
    | some l=>Ln b m m' (iG l) (Mx b (iG l) m')
    | none=>none
def WM (k:Nat) (A:AFn) (args:List AV) (b:Nat) (m:AM):Option Ef :=
  match decide (args.length≤A.n) && decide (1≤b) && decide (m.map (·.1)).Nodup && m.all (fun p=>decide (p.1<b - 1) && p.2.inN (m.map (·.1))) && jY (m.map (·.1)) args with
  | true=>LU b m A.res (Aj call A.n b k A.code (wL 0 args) m b)
  | false=>none
def A3 (k:Nat) (args:List AV) (b:Nat) (M:AM):Option AFn→Option Ef
  | none=>none
  | some A=>WM call k A args b (jZ M (reachM M (fA 1 (jM args) [])))
def WV (f:Unit→Option Ef):Option Ef→Option Ef
  | some e=>some e
  | none=>f ()
end
def OQ (tab:List (Nat×AFn)) (L:List OE) (k:Nat):Nat→FuncId→List AV→AM→Nat→Option Ef
  | 0,_,_,_,_=>none
  | n+1,f,args,M,b=>WV (fun _=>A3 (OQ tab L k n) k args b M (LJ tab f)) (GH L f args M b)
def MF (res:List (Nat×Option (Nat×Bool))):Option Tq→Option AV
  | none=>none
  | some (.exit _,_)=>none
  | some (_,env',m',_)=>match Jp env' m'.get res with
    | some l=>match decide (m'.map (·.1)).Nodup && m'.all (fun p=>decide (1≤p.1)) && (fA 1 (iG l).nms []).all (fun g=>decide (1≤g)) && fS m' (fA 1 (iG l).nms []) with
      | true=>some ((iG l).tr (stT 1 1 (fA 1 (iG l).nms []) [] m'))
      | false=>none
    | none=>none
def QL (tab:List (Nat×AFn)) (L:List OE) (k n:Nat) (args:List AV):Option AFn→Option AV
  | none=>none
  | some A=>match decide (args.length≤A.n) with
    | true=>MF A.res (Aj (OQ tab L k n) A.n 1 k A.code (wL 0 args) [] 1)
    | false=>none
def QM (tab:List (Nat×AFn)) (L:List OE) (k n:Nat) (f:FuncId) (args:List AV):Option AV:=QL tab L k n args (LJ tab f)

section
variable {P:Program} {call:FuncId→List AV→AM→Nat→Option Ef}
def sH (P:Program) (call:FuncId→List AV→AM→Nat→Option Ef):Prop:=∀ f args m b e,call f args m b=some e→∀ κ:Ef→Prop,κ e→AC P f args m b κ
theorem Ws (hc:sH P call) {n:Nat} {op:AOp} {E:EV} {env:List AV} (hr:Rep n E env) {m:AM} {b:Nat} {e:Ef} (h:VS call op E m b=some e) {κ:Ef→Prop} (hk:κ e):lL P op κ env m b:=by
  unfold VS at h
  unfold lL
  split at h
  · rw [hr.opds] at h; exact hc _ _ _ _ _ h _ hk
  · rw [hr.opds,hr.opd] at h
    unfold YA at h
    split at h
    · rename_i heq; simp only [heq,vZ]; exact hc _ _ _ _ _ h _ hk
    · cases h
  · rw [hr.opds,hr.opd] at h
    unfold XZ at h
    split at h
    · rename_i heq
      split at h
      · rename_i hg; simp only [heq,Cb,hg]; exact hc _ _ _ _ _ h _ hk
      · cases h
    · cases h
  · rw [hr.aop] at h
    simp only [Option.map_eq_some_iff] at h
    obtain ⟨r,h1,rfl⟩:=h
    simp only [h1,nK]
    exact hk
theorem Wr (hc:sH P call) {n:Nat} {g:Option (Nat×Bool)} {op:AOp} {E:EV} {env:List AV} (hr:Rep n E env) {m:AM} {b:Nat} {e:Ef} (h:VQ call g op E m b=some e) {κ:Ef→Prop} (hk:κ e):gK P g op κ env m b:=by
  cases g with
  | none=>exact Ws hc hr h hk
  | some p =>
    obtain ⟨s,w⟩:=p
    simp only [VQ] at h
    simp only [gK]
    rw [hr.2] at h
    generalize env.getD s .und=x at h ⊢
    cases x with
    | bool t =>
      simp only [OS] at h
      simp only [jX]
      cases htw:(t == w) with
      | true=>rw [htw] at h; exact Ws hc hr h hk
      | false=>rw [htw] at h; simp only [OT,F0] at h; subst h; exact hk
    | tup l =>
      cases l with
      | nil=>simp only [OS,F0] at h; subst h; exact hk
      | cons y l=>simp [OS] at h
    | _=>simp [OS] at h
theorem Om {n:Nat} {E E':EV} {env:List AV} (hr:Rep n E env) {d:Option Nat} {v:AV} (h:Yv n E d v=some E'):Rep n E' (qY env d v):=by
  cases d with
  | none=>simp only [Yv,F0] at h; subst h; exact hr
  | some d =>
    simp only [Yv] at h
    split at h
    · rename_i hd
      simp only [F0] at h; subst h
      exact hr.set (M5 hd) v
    · cases h
theorem Wt (hc:sH P call) {n:Nat}:∀ {xs:List AO} {E:EV} {env:List AV} {m:AM} {b:Nat} {r:EV×AM×Nat},Rep n E env→NC call n xs E m b=some r→∃ env',Rep n r.1 env'∧∀ k:KE,k env' r.2.1 r.2.2→xJ P xs k env m b
  | [],E,env,m,b,r,hr,h=>by simp only [NC,F0] at h; subst h; exact ⟨env,hr,fun k hk=>hk⟩
  | o :: rest,E,env,m,b,r,hr,h=>by
    simp only [NC] at h
    split at h
    · rename_i e he
      split at h
      · rename_i E' hE
        obtain ⟨env',h1,h2⟩:=Wt hc (Om hr hE) h
        exact ⟨env',h1,fun k hk=>Wr hc hr he (h2 k hk)⟩
      · cases h
    · cases h
theorem Wu (hc:sH P call) {n:Nat} {un:List (Nat×Nat)}:∀ {xs:List AO} {tr:List Ef} {E:EV} {env:List AV} {m:AM} {b:Nat} {r:EV×AM×Nat},Rep n E env→ND call n un xs tr E m b=some r→∃ env',Rep n r.1 env'∧∀ k:KE,k env' r.2.1 r.2.2→vS P un xs k tr env m b
  | [],tr,E,env,m,b,r,hr,h=>by
    simp only [ND] at h
    split at h
    · rename_i hd; simp only [F0] at h; subst h; exact ⟨env,hr,fun k hk=>⟨hd,hk⟩⟩
    · cases h
  | o :: rest,tr,E,env,m,b,r,hr,h=>by
    simp only [ND] at h
    split at h
    · rename_i e he
      split at h
      · rename_i E' hE
        obtain ⟨env',h1,h2⟩:=Wu hc (Om hr hE) h
        exact ⟨env',h1,fun k hk=>Wr hc hr he (h2 k hk)⟩
      · cases h
    · cases h
theorem Wp (hc : sH P call) {n b0 k:Nat}:∀ {c:ACode} {E:EV} {env:List AV} {m:AM} {b:Nat} {r:Tq},Rep n E env→Aj call n b0 k c E m b=some r→∃ env',Rep n r.2.1 env'∧∀ K:KX,K r.1 env' r.2.2.1 r.2.2.2→vc P b0 c K env m b:=by
  intro c
  induction c with
  | skip=>intro E env m b r hr h; simp only [Aj,F0] at h; subst h; exact ⟨env,hr,fun K hk=>hk⟩
  | ret=>intro E env m b r hr h; simp only [Aj,F0] at h; subst h; exact ⟨env,hr,fun K hk=>hk⟩
  | exit i=>intro E env m b r hr h; simp only [Aj,F0] at h; subst h; exact ⟨env,hr,fun K hk=>hk⟩
  | seq x y ihx ihy =>
    intro E env m b r hr h
    simp only [Aj] at h
    simp only [vc]
    cases hx:Aj call n b0 k x E m b with
    | none=>rw [hx] at h; cases h
    | some q =>
      rw [hx] at h
      obtain ⟨e,env1,m1,b1⟩:=q
      obtain ⟨env',h1,h2⟩:=ihx hr hx
      cases e with
      | normal =>
        obtain ⟨env2,h3,h4⟩:=ihy h1 h
        exact ⟨env2,h3,fun K hk=>h2 _ (h4 K hk)⟩
      | exit i=>simp only [Ff,F0] at h; subst h; exact ⟨env',h1,fun K hk=>h2 _ hk⟩
      | ret=>simp only [Ff,F0] at h; subst h; exact ⟨env',h1,fun K hk=>h2 _ hk⟩
  | block i x ih =>
    intro E env m b r hr h
    simp only [Aj] at h
    simp only [vc]
    cases hx:Aj call n b0 k x E m b with
    | none=>rw [hx] at h; cases h
    | some q =>
      rw [hx] at h
      obtain ⟨e,env1,m1,b1⟩:=q
      obtain ⟨env',h1,h2⟩:=ih hr hx
      cases e with
      | normal=>simp only [DO,F0] at h; subst h; exact ⟨env',h1,fun K hk=>h2 _ hk⟩
      | ret=>simp only [DO,F0] at h; subst h; exact ⟨env',h1,fun K hk=>h2 _ hk⟩
      | exit j =>
        simp only [DO] at h
        split at h
        · rename_i hj
          simp only [F0] at h; subst h
          exact ⟨env',h1,fun K hk=>h2 _ (by simp only [rU,if_pos (S5 hj)]; exact hk)⟩
        · rename_i hj
          simp only [F0] at h; subst h
          exact ⟨env',h1,fun K hk=>h2 _ (by simp only [rU,if_neg (X2 hj)]; exact hk)⟩
  | cond q x y ihx ihy =>
    intro E env m b r hr h
    simp only [Aj] at h
    simp only [vc]
    rw [hr.opd] at h
    split at h
    · rename_i hq; simp only [hq,Ec,zC]; exact ihx hr h
    · rename_i hq; simp only [hq,Ec,zC]; exact ihy hr h
    · cases h
  | loop x ih =>
    intro E env m b r hr h
    simp only [Aj] at h
    simp only [vc]
    have main : ∀ j E env m b,Rep n E env→Of (Aj call n b0 k x) b0 j E m b=some r→b0≤b∧∃ env',Rep n r.2.1 env'∧∀ K:KX,K r.1 env' r.2.2.1 r.2.2.2→Mv P b0 x K j env m b:=by
      intro j
      induction j with
      | zero=>intro E env m b _ h; cases h
      | succ j ihn =>
        intro E env m b hr h
        simp only [Of] at h
        split at h
        · rename_i hb
          refine ⟨M5 hb,?_⟩
          cases hx:Aj call n b0 k x E m b with
          | none=>rw [hx] at h; cases h
          | some q =>
            rw [hx] at h
            obtain ⟨e,env1,m1,b1⟩:=q
            obtain ⟨env',h1,h2⟩:=ih hr hx
            cases e with
            | normal =>
              obtain ⟨h3,env2,h4,h5⟩:=ihn _ _ _ _ h1 h
              exact ⟨env2,h4,fun K hk=>h2 _ ⟨h3,h5 K hk⟩⟩
            | exit i=>simp only [Ff,F0] at h; subst h; exact ⟨env',h1,fun K hk=>h2 _ hk⟩
            | ret=>simp only [Ff,F0] at h; subst h; exact ⟨env',h1,fun K hk=>h2 _ hk⟩
        · cases h
    obtain ⟨h1,env',h2,h3⟩:=main _ _ _ _ _ hr h
    exact ⟨env',h2,fun K hk=>kT k h1 (h3 K hk)⟩
  | reg ops =>
    intro E env m b r hr h
    simp only [Aj] at h
    cases hx:NC call n ops E m b with
    | none=>rw [hx] at h; cases h
    | some q =>
      rw [hx] at h; simp only [VT,F0] at h; subst h
      obtain ⟨env',h1,h2⟩:=Wt hc hr hx
      exact ⟨env',h1,fun K hk=>h2 _ hk⟩
  | regT ops un =>
    intro E env m b r hr h
    simp only [Aj] at h
    cases hx:ND call n un ops [] E m b with
    | none=>rw [hx] at h; cases h
    | some q =>
      rw [hx] at h; simp only [VT,F0] at h; subst h
      obtain ⟨env',h1,h2⟩:=Wu hc hr hx
      exact ⟨env',h1,fun K hk=>h2 _ hk⟩
theorem LE (hmix:P.follows .mixedOrders=true) (hc:sH P call) {k:Nat} {f:FuncId} {A:AFn} (hA:xf P f=some A) {args:List AV} {b:Nat} {M:AM} {e:Ef} (h:WM call k A args b (jZ M (reachM M (fA 1 (jM args) [])))=some e) {κ:Ef→Prop} (hk:κ e):AC P f args M b κ:=by
  generalize hm:jZ M (reachM M (fA 1 (jM args) []))=m at h
  unfold WM at h
  split at h
  · rename_i hq
    simp only [E0,decide_eq_true_eq] at hq
    obtain ⟨⟨⟨⟨q1,q2⟩,q3⟩,q4⟩,q5⟩:=hq
    cases hx:Aj call A.n b k A.code (wL 0 args) m b with
    | none=>rw [hx] at h; cases h
    | some r =>
      rw [hx] at h
      obtain ⟨x,E',m',b'⟩:=r
      obtain ⟨env',hr',hv⟩:=Wp hc (Rep.enum q1) hx
      simp only at hr' hv
      rw [show LU b m A.res (some (x,E',m',b'))=(match x with | .exit _=>none | _=>match resL env' m'.get A.res with | some l=>Ln b m m' (iG l) (Mx b (iG l) m') | none=>none) from by cases x <;> simp only [LU,hr'.resL]] at h
      have main:(match resL env' m'.get A.res with | some l=>Ln b m m' (iG l) (Mx b (iG l) m') | none=>none)=some e→(∀ fin l,resL env' m'.get A.res=some l→fin (iG l) m' b'→gQ A.res fin x env' m' b')→AC P f args M b κ:=by
        intro h hr
        split at h
        · rename_i l hl
          unfold Ln at h
          split at h
          · rename_i hs
            simp only [F0] at h
            rw [E0] at hs
            exact AC.inlE hmix hA q1 q2 hm q3 q4 q5 ⟨l,m',b',⟨Mx b (iG l) m',hs.1,hs.2,by rw [h]; exact hk⟩,fun e' he=>hv _ (hr _ l hl he)⟩
          · cases h
        · cases h
      cases x with
      | exit i=>cases h
      | normal=>exact main h fun fin l hl hf=>by simp only [gQ,hl,lP]; exact hf
      | ret=>exact main h fun fin l hl hf=>by simp only [gQ,hl,lP]; exact hf
  · cases h
def Au (P:Program) (tab:List (Nat×AFn)):Prop:=∀ p,p∈tab→xf P p.1=some p.2
def zA (P:Program) (L:List OE):Prop:=∀ o,o∈L→cX P o.f o.args (o.v,[],[])
theorem Yj {tab:List (Nat×AFn)} (ht:Au P tab):∀ {f:Nat} {A:AFn},LJ tab f=some A→xf P f=some A:=by
  induction tab with
  | nil=>intro f A h; cases h
  | cons p l ih =>
    intro f A h
    simp only [LJ] at h
    split at h
    · rename_i hb
      simp only [F0] at h
      rw [← h,← S5 hb]
      exact ht p (J8 ..)
    · exact ih (fun q hq=>ht q (H9 _ hq)) h
theorem GG {L:List OE} (hL:zA P L) {f:Nat} {xs:List AV}:∀ {v:AV},GF f xs L=some v→cX P f xs (v,[],[]):=by
  induction L with
  | nil=>intro v h; cases h
  | cons o l ih =>
    intro v h
    simp only [GF] at h
    split at h
    · rename_i hb
      rw [E0] at hb
      simp only [F0] at h
      rw [← h,← S5 hb.1]
      exact Nm (wP _ _ hb.2) (hL o (J8 ..))
    · exact ih (fun q hq=>hL q (H9 _ hq)) h
theorem GI {L:List OE} (hL:zA P L):sH P (GH L):=by
  intro f args m b e h κ hk
  unfold GH at h
  split at h
  · cases h
  · split at h
    · cases h
    · rename_i v hv
      split at h
      · rename_i hq
        simp only [E0,decide_eq_true_eq] at hq
        simp only [F0] at h
        rw [← h] at hk
        exact AC.pk _ (GG hL hv) rfl hq.1.1 hq.1.2 hq.2 hk
      · cases h
theorem Wq (hmix:P.follows .mixedOrders=true) {tab:List (Nat×AFn)} {L:List OE} (ht:Au P tab) (hL:zA P L) {k:Nat}:∀ n,sH P (OQ tab L k n)
  | 0=>fun f args m b e h=>by cases h
  | n + 1=>fun f args m b e h κ hk=>by
    simp only [OQ] at h
    cases ho:GH L f args m b with
    | some e' =>
      rw [ho] at h
      simp only [WV,F0] at h
      subst h
      exact GI hL _ _ _ _ _ ho _ hk
    | none =>
      rw [ho] at h
      simp only [WV] at h
      cases hA:LJ tab f with
      | none=>rw [hA] at h; cases h
      | some A=>rw [hA] at h; exact LE hmix (Wq hmix ht hL n) (Yj ht hA) h hk
theorem KN (hmix:P.follows .mixedOrders=true) {tab:List (Nat×AFn)} {L:List OE} (ht:Au P tab) (hL:zA P L) {k n:Nat} {f:FuncId} {args:List AV} {v:AV} (h:QM tab L k n f args=some v):cX P f args (v,[],[]):=by
  unfold QM at h
  cases hA:LJ tab f with
  | none=>rw [hA] at h; cases h
  | some A =>
    rw [hA] at h
    unfold QL at h
    simp only [] at h
    split at h
    · rename_i hl
      refine aI hmix (Yj ht hA) (of_decide_eq_true hl) fun _ _=>?_
      cases hx:Aj (OQ tab L k n) A.n 1 k A.code (wL 0 args) [] 1 with
      | none=>rw [hx] at h; cases h
      | some r =>
        rw [hx] at h
        obtain ⟨x,E',m',b'⟩:=r
        obtain ⟨env',hr',hv⟩:=Wp (Wq hmix ht hL n) (Rep.enum (of_decide_eq_true hl)) hx
        simp only at hr' hv
        refine hv _ ?_
        rw [show MF A.res (some (x,E',m',b'))=(match x with | .exit _=>none | _=>match resL env' m'.get A.res with
            | some l=>match decide (m'.map (·.1)).Nodup && m'.all (fun p=>decide (1≤p.1)) && (fA 1 (iG l).nms []).all (fun g=>decide (1≤g)) && fS m' (fA 1 (iG l).nms []) with
              | true=>some ((iG l).tr (stT 1 1 (fA 1 (iG l).nms []) [] m'))
              | false=>none
            | none=>none) from by cases x <;> simp only [MF,hr'.resL]] at h
        have main:(match resL env' m'.get A.res with
            | some l=>match decide (m'.map (·.1)).Nodup && m'.all (fun p=>decide (1≤p.1)) && (fA 1 (iG l).nms []).all (fun g=>decide (1≤g)) && fS m' (fA 1 (iG l).nms []) with
              | true=>some ((iG l).tr (stT 1 1 (fA 1 (iG l).nms []) [] m'))
              | false=>none
            | none=>none)=some v→(∀ fin l,resL env' m'.get A.res=some l→fin (iG l) m' b'→gQ A.res fin x env' m' b')→gQ A.res (gN 1 [] (v,[],[])) x env' m' b':=by
          intro h hr
          split at h
          · rename_i l hl
            split at h
            · rename_i hs
              simp only [E0,decide_eq_true_eq] at hs
              simp only [F0] at h
              exact hr _ l hl (Nu rfl hs.1.1.1 hs.1.1.2 hs.1.2 hs.2 rfl (Wk.of_eq h))
            · cases h
          · cases h
        cases x with
        | exit i=>cases h
        | normal=>exact main h fun fin l hl hf=>by simp only [gQ,hl,lP]; exact hf
        | ret=>exact main h fun fin l hl hf=>by simp only [gQ,hl,lP]; exact hf
    · cases h
end
end Go.Sak
