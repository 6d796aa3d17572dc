/- Part T100 of the proofs about the program: Zd, Ev. Conditions: none. -/
import Derived.Test.YtahdilehajdhgaaGreatT03
open Go.Sak.AM renaming get→J0,get_of_mem→O4,mem_of_get→J1
open Bool renaming and_eq_true→D9,false_eq_true→G0,not_eq_true'→M8,or_eq_true→H9
open List renaming all_eq_true→G4,append_nil→N3,contains_iff_mem→H6,filter_cons→R8,getD_eq_getElem?_getD→E6,map_congr_left→O7,map_map→R7,mem_append→N9,mem_cons_of_mem→H8,mem_cons_self→J7,mem_filter→P1,mem_map→G5,nil_append→I9
open Nat renaming beq→i9,eq_of_beq_eq_true→S4,le_of_ble_eq_true→M4,le_refl→G1,ne_of_beq_eq_false→X1
open Option renaming isSome_iff_exists→G2
open Option.some renaming injEq→E9
namespace Go.Sak
open Go Go.RowKit
set_option linter.unusedVariables false
set_option linter.unusedSimpArgs false
section
variable {P:Program} {κ:Ef→Prop} {m:AM} {b:Nat}
theorem sQ {b0:Nat} {m0 m2:AM} {v v':AV} (Z:List Nat) (ren:List (Nat×Nat)) (k1:stOk b0 (b0+15) Z ren m=true) (k2:fS m Z=true) (h2:stM b0 (b0+15) Z ren (stT b0 (b0+15) Z ren m) m=m2)
    (hnd:(m2.map (·.1)).Nodup) (hv:v.tr (stT b0 (b0+15) Z ren m)=v'):gM b0 m0 (v',inlU m0 m2,[]) v m b:=by
  have hs:=SubS.step (env:=[v]) (b:=b) k1 k2
  rw [h2] at hs
  exact ⟨v',m2,b0+16,by rw [← hv]; exact hs,G1 _,mP hnd,rfl⟩
theorem KV {b0:Nat} {m0 m2:AM} {v v':AV} (Z:List Nat) (ren:List (Nat×Nat)) (k1:stOk b0 (b0+15) Z ren m=true) (k2:fS m Z=true) (h2:stM b0 (b0+15) Z ren (stT b0 (b0+15) Z ren m) m=m2)
    (hnd:(m2.map (·.1)).Nodup) (hv:Wk (v.tr (stT b0 (b0+15) Z ren m)) v'):gM b0 m0 (v',inlU m0 m2,[]) v m b:=by
  have hs:=SubS.step (env:=[v]) (b:=b) k1 k2
  rw [h2] at hs
  exact ⟨v',m2,b0+16,hs.trans (SubS.weak hv),G1 _,mP hnd,rfl⟩
theorem AC.mb {M m2:AM} {f:FuncId} {args:List AV} {v:AV} (B0:Nat) (h:sD P f args (v,inlU m m2,[]) m.get B0) (h1:1≤B0) (hb:B0≤b) (hM:jY M (reachM M (fA 1 (jL args) []))=m) (hnd:(m.map (·.1)).Nodup)
    (h0:m.all (fun p=>decide (p.1<B0 - 1) && p.2.inN (m.map (·.1)))=true) (hargs:jX (m.map (·.1)) args=true) (k3:m2.all (fun p=>decide (p.1<B0+15) && (decide (B0≤p.1) || (m.map (·.1)).contains p.1))=true)
    (k4:κ (v.tr (mU B0 b),(inlU m m2).map (rG B0 b),m.map (·.1))):AC P f args M b κ:=by
  have hlt:∀ n B,m.get n=some B→n<B0 - 1:=fun n B hB=>by
    have:=G4.1 h0 _ (J1 hB)
    simp only [D9,decide_eq_true_eq] at this
    exact this.1
  have hks:∀ n,n∈m.map (·.1)↔(m.get n).isSome=true:=fun n=>⟨fun hm=>by
    obtain ⟨⟨k,B⟩,hk,rfl⟩:=G5.1 hm
    rw [O4 hnd hk]; rfl,fun hs=>by
    obtain ⟨B,hB⟩:=G2.1 hs
    exact G5.2 ⟨(n,B),J1 hB,rfl⟩⟩
  have:=mS (kz:=false) (Z:=[]) (args':=args) (m:=M.get) h h1 hb (fun n B hB=>⟨hlt n B hB,tY hM (J1 hB)⟩) hks (fun T hT' n B hB=>?_) (fun g hg=>by cases hg) ?_ (fun p hp=>?_) (.inr (.inl rfl))
  · refine ⟨_,this,?_⟩
    simp only [lT,I9,G0,if_false,N3]
    exact k4
  · have hB':=G4.1 h0 _ (J1 hB)
    simp only [D9] at hB'
    exact Blk.tr_inN (fun g hg=>hT' g ((hks g).1 hg)) hB'.2
  · refine jD (fun g hg=>?_) args hargs
    have hc:(m.map (·.1)).contains g=true:=H6.2 hg
    exact ⟨fun r o=>by simp only [rI,hc]; simp,fun l=>by simp only [rI,hc]; simp,by simp only [rI,hc]; simp⟩
  · simp only [inlU] at hp
    rcases N9.1 hp with hp | hp
    · obtain ⟨q,hq,rfl⟩:=G5.1 hp
      have hg:=O4 hnd hq
      have:=hlt q.1 q.2 hg
      exact ⟨by simp only []; omega,fun _=>by simp only [hg]; rfl⟩
    · obtain ⟨q,hq,rfl⟩:=G5.1 hp
      have:=G4.1 k3 q hq
      simp only [D9,H9,decide_eq_true_eq,H6] at this
      refine ⟨this.1,fun hb=>?_⟩
      rcases this.2 with r | r
      · simp only [] at hb; omega
      · exact (hks _).1 r
theorem AC.mc {M m' m2:AM} {f:FuncId} {args:List AV} {v:AV} (B0:Nat) (h:sD P f args (v,inlU m m2,[]) m.get B0) (h1:1≤B0) (hb:B0≤b) (hM:jY M (reachM M (fA 1 (jL args) []))=m') (hm:m'=m) (hnd:(m.map (·.1)).Nodup)
    (h0:m.all (fun p=>decide (p.1<B0 - 1) && p.2.inN (m.map (·.1)))=true) (hargs:jX (m.map (·.1)) args=true) (k3:m2.all (fun p=>decide (p.1<B0+15) && (decide (B0≤p.1) || (m.map (·.1)).contains p.1))=true)
    (k4:κ (v.tr (mU B0 b),(inlU m m2).map (rG B0 b),m.map (·.1))):AC P f args M b κ:=AC.mb B0 h h1 hb (hM.trans hm) hnd h0 hargs k3 k4
end

mutual
/-- Two values are one (values without names). -/
def AV.same:AV→AV→Bool
  | .int k a,.int k' b=>decide (k=k') && decide (a=b)
  | .bool a,.bool b=>a == b
  | .nilp,.nilp=>true
  | .slnil,.slnil=>true
  | .mapnil,.mapnil=>true
  | .fnnil,.fnnil=>true
  | .ifnil,.ifnil=>true
  | .sle s,.sle t=>decide (s=t)
  | .slv s r,.slv t q=>decide (s=t) && vO r q
  | .agg a,.agg b=>tB a b
  | .tup a,.tup b=>tB a b
  | .ptr g r o,.ptr g' r' o'=>decide (g=g') && decide (r=r') && decide (o=o')
  | .slm g l,.slm g' l'=>decide (g=g') && decide (l=l')
  | .mapm g,.mapm g'=>decide (g=g')
  | .pv a,.pv b=>tB a b
  | .fn f a c,.fn f' a' c'=>decide (f=f') && tB a a' && tB c c'
  | .iface t x,.iface t' y=>decide (t=t') && x.same y
  | _,_=>false
def tB:List AV→List AV→Bool
  | [],[]=>true
  | x :: l,y :: q=>x.same y && tB l q
  | _,_=>false
def vO:List (List AV)→List (List AV)→Bool
  | [],[]=>true
  | x :: l,y :: q=>tB x y && vO l q
  | _,_=>false
end
mutual
theorem AV.same_eq:∀ (x y:AV),x.same y=true→x=y
  | .int k a,y,h=>by cases y <;> simp [AV.same] at h; rw [h.1,h.2]
  | .bool a,y,h=>by cases y <;> simp [AV.same] at h; rw [h]
  | .nilp,y,h=>by cases y <;> simp [AV.same] at h; rfl
  | .slnil,y,h=>by cases y <;> simp [AV.same] at h; rfl
  | .mapnil,y,h=>by cases y <;> simp [AV.same] at h; rfl
  | .fnnil,y,h=>by cases y <;> simp [AV.same] at h; rfl
  | .ifnil,y,h=>by cases y <;> simp [AV.same] at h; rfl
  | .sle s,y,h=>by cases y <;> simp [AV.same] at h; rw [h]
  | .slv s r,y,h=>by cases y <;> simp [AV.same] at h; rw [h.1,yQ _ _ h.2]
  | .agg a,y,h=>by cases y <;> simp [AV.same] at h; rw [nW _ _ h]
  | .tup a,y,h=>by cases y <;> simp [AV.same] at h; rw [nW _ _ h]
  | .str _,y,h=>by cases y <;> simp [AV.same] at h
  | .ptr _ _ _,y,h=>by cases y <;> simp [AV.same] at h; rw [h.1.1,h.1.2,h.2]
  | .pv a,y,h=>by cases y <;> simp [AV.same] at h; rw [nW _ _ h]
  | .slm _ _,y,h=>by cases y <;> simp [AV.same] at h; rw [h.1,h.2]
  | .mapm _,y,h=>by cases y <;> simp [AV.same] at h; rw [h]
  | .fn _ a c,y,h=>by cases y <;> simp [AV.same] at h; rw [h.1.1,nW _ _ h.1.2,nW _ _ h.2]
  | .iface _ x,y,h=>by cases y <;> simp [AV.same] at h; rw [h.1,AV.same_eq _ _ h.2]
  | .und,y,h=>by cases y <;> simp [AV.same] at h
theorem nW:∀ (x y:List AV),tB x y=true→x=y
  | [],y,h=>by cases y <;> simp [tB] at h; rfl
  | a :: l,y,h=>by
    cases y with
    | nil=>simp [tB] at h
    | cons b q=>simp only [tB,D9] at h; rw [AV.same_eq a b h.1,nW l q h.2]
theorem yQ:∀ (x y:List (List AV)),vO x y=true→x=y
  | [],y,h=>by cases y <;> simp [vO] at h; rfl
  | a :: l,y,h=>by
    cases y with
    | nil=>simp [vO] at h
    | cons b q=>simp only [vO,D9] at h; rw [nW a b h.1,yQ l q h.2]
end
def Ez:List (AV×AV)→List (AV×AV)→Bool
  | [],[]=>true
  | x :: l,y :: q=>x.1.same y.1 && x.2.same y.2 && Ez l q
  | _,_=>false
theorem Jr:∀ (x y:List (AV×AV)),Ez x y=true→x=y
  | [],y,h=>by cases y <;> simp [Ez] at h; rfl
  | a :: l,y,h=>by
    cases y with
    | nil=>simp [Ez] at h
    | cons b q =>
      simp only [Ez,D9] at h
      rw [Jr l q h.2,show a=b from Prod.ext (AV.same_eq _ _ h.1.1) (AV.same_eq _ _ h.1.2)]
def Blk.same:Blk→Blk→Bool
  | .rows t s r,.rows t' s' r'=>decide (t=t') && decide (s=s') && vO r r'
  | .mp e,.mp e'=>Ez e e'
  | _,_=>false
theorem Blk.same_eq (x y:Blk) (h:x.same y=true):x=y:=by
  cases x <;> cases y <;> simp [Blk.same] at h
  · rw [h.1.1,h.1.2,yQ _ _ h.2]
  · rw [Jr _ _ h]
def VO (m:AM) (p:Nat×Blk):Bool:=match m.get p.1 with
  | some B=>!(B.same p.2)
  | none=>true
def AN (m m2:AM):List (Nat×Option Blk):=((m.map (·.1)).filter fun g=>!(m2.map (·.1)).contains g).map (fun g=>(g,none)) ++ (m2.filter (VO m)).map fun p=>(p.1,some p.2)
theorem By {q:Nat×Blk→Bool}:∀ {m:AM} {n:Nat},(m.map (·.1)).Nodup→J0 (m.filter q) n=(match m.get n with | some B=>if q (n,B) then some B else none | none=>none)
  | [],n,_=>rfl
  | (k,B) :: l,n,h=>by
    simp only [List.map_cons,List.nodup_cons] at h
    have ih:=By (q:=q) (n:=n) h.2
    by_cases hn:n=k
    · subst hn
      have h0:J0 l n=none:=zG h.1
      rw [h0] at ih
      simp only [R8,J0,if_pos]
      by_cases hq:q (n,B)=true
      · rw [if_pos hq,if_pos hq]; simp [J0]
      · rw [if_neg hq,if_neg hq]; exact ih
    · simp only [R8,J0,if_neg hn]
      split
      · simp only [J0,if_neg hn]; exact ih
      · exact ih
theorem DU {m m2:AM} (h:(m2.map (·.1)).Nodup):m2.get=(m.upd (AN m m2)).get:=by
  rw [AM.get_upd]
  funext n
  unfold AN
  have h2:((m2.filter (VO m)).map (·.1)).Nodup:=h.sublist (List.filter_sublist.map _)
  rw [oB,Cz h2,By h,xH]
  have hks : ∀ (M:AM),n∈M.map (·.1)↔(M.get n).isSome=true:=fun M=>⟨fun hm=>by
    cases hg:M.get n with
    | some B=>rfl
    | none =>
      exfalso
      have : ∀ (M:AM),n∈M.map (·.1)→M.get n=none→False:=by
        intro M
        induction M with
        | nil=>intro h; cases h
        | cons p l ih =>
          obtain ⟨k,B⟩:=p
          intro h1 h2
          simp only [J0] at h2
          split at h2
          · cases h2
          · rename_i hk
            rcases List.mem_cons.1 h1 with h1 | h1
            · exact hk h1
            · exact ih h1 h2
      exact this M hm hg,fun hs=>by
    obtain ⟨B,hB⟩:=G2.1 hs
    exact G5.2 ⟨(n,B),J1 hB,rfl⟩⟩
  cases hg:m2.get n with
  | none =>
    simp only []
    split
    · rfl
    · rename_i hn
      cases hm:m.get n with
      | none=>rfl
      | some B =>
        exfalso
        refine hn (P1.2 ⟨(hks m).2 (by rw [hm]; rfl),?_⟩)
        have:¬ n∈m2.map (·.1):=fun hh=>by have:=(hks m2).1 hh; rw [hg] at this; cases this
        simpa using this
  | some B =>
    simp only []
    by_cases hc:VO m (n,B)=true
    · rw [if_pos hc]
    · rw [if_neg hc]
      simp only []
      have hin:n∈m2.map (·.1):=(hks m2).2 (by rw [hg]; rfl)
      rw [if_neg (fun hh=>by
        have:=(P1.1 hh).2
        rw [H6.2 hin] at this; cases this)]
      unfold VO at hc
      simp only [] at hc
      split at hc
      · rename_i B' hB'
        rw [hB']
        simp only [M8,Bool.not_eq_false] at hc
        rw [Blk.same_eq _ _ hc]
      · exact absurd rfl hc
theorem Mz {m m2:AM} {p:Nat×Option Blk} (h:p∈AN m m2):(p.2=none∧p.1∈m.map (·.1))∨∃ B,p.2=some B∧(p.1,B)∈m2:=by
  unfold AN at h
  rcases N9.1 h with h | h
  · obtain ⟨g,hg,rfl⟩:=G5.1 h
    exact .inl ⟨rfl,(P1.1 hg).1⟩
  · obtain ⟨q,hq,rfl⟩:=G5.1 h
    exact .inr ⟨q.2,rfl,(P1.1 hq).1⟩
def inlE (b:Nat) (m:AM) (κ:Ef→Prop) (v:AV) (m':AM) (b':Nat):Prop:=∃ ren,stOk b (b+15) [] ren m'=true ∧
  inlOk b m [] ren (v.tr (stT b (b+15) [] ren m')) (stM b (b+15) [] ren (stT b (b+15) [] ren m') m')=true ∧
  κ (v.tr (stT b (b+15) [] ren m'),AN m (stM b (b+15) [] ren (stT b (b+15) [] ren m') m'),m.map (·.1))
mutual
/-- What is said of one value is said of another one: empty slices are seen as such. -/
def AV.fit:AV→AV→Bool
  | .slnil,.slv _ []=>true
  | .sle _,.slv _ []=>true
  | .slv _ [],.slv _ []=>true
  | .agg a,.agg b=>Gm a b
  | .tup a,.tup b=>Gm a b
  | x,y=>x.same y
def Gm:List AV→List AV→Bool
  | [],[]=>true
  | x :: l,y :: q=>x.fit y && (!x.one || y.one) && Gm l q
  | _,_=>false
end
theorem Wk.sleT (s t:Nat):Wk (.sle s) (.slv t []):=fun _ _ h=>by cases h with | sle _ a cap hc=>exact .slve t a cap hc
theorem Wk.slv0 (s t:Nat):Wk (.slv s []) (.slv t []):=fun _ _ h=>by
  cases h with
  | slv0=>exact .slv0 t
  | slve _ a cap hc=>exact .slve t a cap hc
  | slvs _ rows a cap us h0=>exact absurd rfl h0
mutual
theorem AV.fit_wk:∀ (x y:AV),x.fit y=true→Wk x y:=fun x y h=>by
  unfold AV.fit at h
  split at h
  · exact Wk.nil _
  · exact Wk.sleT _ _
  · exact Wk.slv0 _ _
  · exact Wk.agg (wO _ _ h)
  · exact Wk.tup (wO _ _ h)
  · exact Wk.of_eq (AV.same_eq _ _ h)
theorem wO:∀ (x y:List AV),Gm x y=true→Wks x y
  | [],y,h=>by cases y <;> simp [Gm] at h; trivial
  | a :: l,y,h=>by
    cases y with
    | nil=>simp [Gm] at h
    | cons b q =>
      simp only [Gm,D9,H9,M8] at h
      refine ⟨AV.fit_wk a b h.1.1,fun h1=>?_,wO l q h.2⟩
      rcases h.1.2 with h2 | h2
      · rw [h1] at h2; cases h2
      · exact h2
end
theorem Nl {P:Program} {f:FuncId} {xs ys:List AV} {e:Ef} (hw:Wks xs ys) (h:cX P f ys e):cX P f xs e:=by
  obtain ⟨h1,h2⟩:=hw.at
  refine ⟨h.1,fun c hc hm hU vs hvs=>h.2 c hc hm hU vs ⟨h1 ▸ hvs.1,fun i y hi=>?_⟩⟩
  obtain ⟨x,q1,q2,_⟩:=h2 i y hi
  exact q2 _ _ (hvs.2 i x q1)

section
variable {P:Program} {κ:Ef→Prop} {m:AM} {b:Nat}
theorem AC.inlE {M:AM} {f:FuncId} {A:AFn} {args:List AV} (hmix:P.follows .mixedOrders=true) (hA:xf P f=some A) (hn:args.length≤A.n) (h1:1≤b) (hM:jY M (reachM M (fA 1 (jL args) []))=m) (hnd:(m.map (·.1)).Nodup) (h0:m.all (fun p=>decide (p.1<b - 1) && p.2.inN (m.map (·.1)))=true)
    (hargs:jX (m.map (·.1)) args=true) (h:∃ l m' b',inlE b m κ (iF l) m' b'∧∀ e,gM b m e (iF l) m' b'→vc P b A.code (gP A.res (gM b m e)) (args ++ List.replicate (A.n - args.length) .und) m b):AC P f args M b κ:=by
  obtain ⟨l,m',b',⟨ren,k1,k3,k4⟩,hall⟩:=h
  generalize hv':(iF l).tr (stT b (b+15) [] ren m')=v' at k3 k4
  generalize hm2:stM b (b+15) [] ren (stT b (b+15) [] ren m') m'=m2 at k3 k4
  simp only [inlOk,D9,decide_eq_true_eq,G4] at k3
  obtain ⟨⟨q1,q2⟩,q3⟩:=k3
  have hs:=SubS.step (env:=[iF l]) (b:=b') k1 (rfl:fS m' []=true)
  rw [hm2] at hs
  have hmcb:sD P f args (v',AN m m2,[]) m.get b:=aI hmix hA hn fun _ _=>hall _ ⟨v',m2,b+16,by rw [← hv']; exact hs,G1 _,DU q1,rfl⟩
  have hlt:∀ n B,m.get n=some B→n<b - 1:=fun n B hB=>by
    have:=G4.1 h0 _ (J1 hB)
    simp only [D9,decide_eq_true_eq] at this
    exact this.1
  have hks:∀ n,n∈m.map (·.1)↔(m.get n).isSome=true:=fun n=>⟨fun hm=>by
    obtain ⟨⟨k,B⟩,hk,rfl⟩:=G5.1 hm
    rw [O4 hnd hk]; rfl,fun hs=>by
    obtain ⟨B,hB⟩:=G2.1 hs
    exact G5.2 ⟨(n,B),J1 hB,rfl⟩⟩
  have fixU:∀ g,g∈m2.map (·.1)→jR b b g=g:=by
    intro g hg
    obtain ⟨p,hp,rfl⟩:=G5.1 hg
    have:=q2 p hp
    simp only [H9,decide_eq_true_eq,H6] at this
    obtain ⟨⟨r1,r2⟩,_⟩:=this
    unfold jR
    by_cases hb:p.1<b
    · rcases r2 with r2 | r2
      · omega
      · obtain ⟨B,hB⟩:=G2.1 ((hks _).1 r2)
        have:=hlt _ B hB
        rw [if_pos hb,if_neg (by omega)]
    · rw [if_neg hb,if_pos r1]; omega
  have hT:∀ g,g∈m2.map (·.1)→(mU b b).fixes g:=fun g hg=>⟨fun r o=>by show AV.ptr (jR b b g) r o=_; rw [fixU g hg],fun l=>by show AV.slm (jR b b g) l=_; rw [fixU g hg],by show AV.mapm (jR b b g)=_; rw [fixU g hg]⟩
  have hupsm:(AN m m2).map (rG b b)=AN m m2:=by
    conv=>rhs; rw [← List.map_id (AN m m2)]
    refine O7 fun p hp=>?_
    obtain ⟨g,ob⟩:=p
    rcases Mz hp with ⟨h1,h2⟩ | ⟨B,h1,h2⟩
    · simp only at h1 h2
      subst h1
      obtain ⟨B,hB⟩:=G2.1 ((hks _).1 h2)
      have:=hlt _ B hB
      simp only [rG,id_eq,Option.map_none,Prod.mk.injEq,and_true]
      unfold jR
      rw [if_pos (by omega),if_neg (by omega)]
    · simp only at h1 h2
      subst h1
      have:=q2 _ h2
      simp only [rG,id_eq,Option.map_some,fixU g (G5.2 ⟨_,h2,rfl⟩)]
      rw [Blk.tr_inN hT this.2]
  have:=mS (kz:=false) (Z:=[]) (args':=args) (m:=M.get) hmcb h1 (G1 b) (fun n B hB=>⟨hlt n B hB,tY hM (J1 hB)⟩) hks (fun T hT' n B hB=>?_) (fun g hg=>by cases hg) ?_ (fun p hp=>?_) (.inr (.inl rfl))
  · refine ⟨_,this,?_⟩
    rw [AV.tr_inN hT _ q3]
    simp only [lT,I9,G0,if_false,hupsm,N3]
    exact k4
  · have hB':=G4.1 h0 _ (J1 hB)
    simp only [D9] at hB'
    exact Blk.tr_inN (fun g hg=>hT' g ((hks g).1 hg)) hB'.2
  · refine jD (fun g hg=>?_) args hargs
    have hc:(m.map (·.1)).contains g=true:=H6.2 hg
    exact ⟨fun r o=>by simp only [rI,hc]; simp,fun l=>by simp only [rI,hc]; simp,by simp only [rI,hc]; simp⟩
  · obtain ⟨g,ob⟩:=p
    rcases Mz hp with ⟨h1,h2⟩ | ⟨B,h1,h2⟩
    · simp only at h2 ⊢
      obtain ⟨B,hB⟩:=G2.1 ((hks _).1 h2)
      have:=hlt _ B hB
      exact ⟨by omega,fun _=>by rw [hB]; rfl⟩
    · simp only at h1 h2 ⊢
      have:=q2 _ h2
      simp only [H9,decide_eq_true_eq,H6] at this
      refine ⟨this.1.1,fun hb=>?_⟩
      rcases this.1.2 with r | r
      · omega
      · exact (hks _).1 r
end

structure OE where
  f:Nat
  args:List AV
  v:AV
def GE (f:Nat) (xs:List AV):List OE→Option AV
  | []=>none
  | o :: l=>match i9 o.f f && Gm xs o.args with
    | true=>some o.v
    | false=>GE f xs l
def GG (L:List OE) (f:Nat) (args:List AV) (m:AM) (b:Nat):Option Ef :=
  match L.any (fun o=>i9 o.f f) with
  | false=>none
  | true=>match GE f (trs (rI m.get [] 1 (fA 1 (jL args) [])) args) L with
    | none=>none
    | some v=>match decide (1≤b) && fS m (fA 1 (jL args) []) && v.pure with
      | true=>some (v,(fA 1 (jL args) []).map (fun g=>(g,none)),fA 1 (jL args) [])
      | false=>none
def LI:List (Nat×AFn)→Nat→Option AFn
  | [],_=>none
  | p :: l,f=>match i9 p.1 f with
    | true=>some p.2
    | false=>LI l f

abbrev EV:=List (Nat×AV)
def EV.get:EV→Nat→AV
  | [],_=>.und
  | p :: l,t=>match i9 p.1 t with
    | true=>p.2
    | false=>EV.get l t
def wK:Nat→List AV→EV
  | _,[]=>[]
  | i,x :: l=>(i,x) :: wK (i+1) l
def Opd.evE (E:EV):Opd→AV
  | .tmp t=>E.get t
  | .const x=>x
  | .func f=>.fn (.func f) [] []
def Opd.lit (E:EV) (x:Opd):Opd:=.const (x.evE E)
def AOp.lit (E:EV):AOp→AOp
  | .mv x=>.mv (x.lit E)
  | .pick c a b=>.pick (c.lit E) (a.lit E) (b.lit E)
  | .ext x i=>.ext (x.lit E) i
  | .not x=>.not (x.lit E)
  | .bin op x y=>.bin op (x.lit E) (y.lit E)
  | .eqb n x y=>.eqb n (x.lit E) (y.lit E)
  | .eqs n ks x y=>.eqs n ks (x.lit E) (y.lit E)
  | .eqn n x=>.eqn n (x.lit E)
  | .conv k x=>.conv k (x.lit E)
  | .faddr o x=>.faddr o (x.lit E)
  | .fld o n a x=>.fld o n a (x.lit E)
  | .iaddr s x i=>.iaddr s (x.lit E) (i.lit E)
  | .aaddr l s x i=>.aaddr l s (x.lit E) (i.lit E)
  | .nilchk x=>.nilchk (x.lit E)
  | .build z ps=>.build z (ps.map fun p=>(p.1,p.2.1,p.2.2.lit E))
  | .mkfn f a b=>.mkfn f (a.map (·.lit E)) (b.map (·.lit E))
  | .mkif t x=>.mkif t (x.lit E)
  | .tassert t ok x=>.tassert t ok (x.lit E)
  | .slc s x lo hi=>.slc s (x.lit E) (lo.map (·.lit E)) (hi.map (·.lit E))
  | .len x=>.len (x.lit E)
  | .mn x y=>.mn (x.lit E) (y.lit E)
  | .mx x y=>.mx (x.lit E) (y.lit E)
  | .app t s z x y=>.app t s z (x.lit E) (y.lit E)
  | .cpy s x y=>.cpy s (x.lit E) (y.lit E)
  | .ld n a x=>.ld n a (x.lit E)
  | .st n x y=>.st n (x.lit E) (y.lit E)
  | .lkp z ok x y=>.lkp z ok (x.lit E) (y.lit E)
  | .mupd x y z=>.mupd (x.lit E) (y.lit E) (z.lit E)
  | .mdel x y=>.mdel (x.lit E) (y.lit E)
  | .alloc t z=>.alloc t z
  | .box t x=>.box t (x.lit E)
  | .bslice t s n l=>.bslice t s n (l.map (·.lit E))
  | .mkmap=>.mkmap
  | .mkslice t s z k x y=>.mkslice t s z k (x.lit E) (y.lit E)
  | .call f l=>.call f l
  | .callv f l=>.callv f l
  | .invoke x tb l=>.invoke x tb l
def Rep (n:Nat) (E:EV) (env:List AV):Prop:=env.length=n∧∀ t,E.get t=env.getD t .und
theorem Rep.opd {n:Nat} {E:EV} {env:List AV} (h:Rep n E env) (x:Opd):x.evE E=x.eval env:=by
  cases x with
  | tmp t=>exact h.2 t
  | _=>rfl
theorem Rep.opds {n:Nat} {E:EV} {env:List AV} (h:Rep n E env) (l:List Opd):l.map (·.evE E)=l.map (·.eval env):=List.map_congr_left fun x _=>h.opd x
theorem Rep.lit {n:Nat} {E:EV} {env:List AV} (h:Rep n E env) (x:Opd):(x.lit E).eval []=x.eval env:=h.opd x
theorem Rep.lits {n:Nat} {E:EV} {env:List AV} (h:Rep n E env) (l:List Opd):(l.map (·.lit E)).map (·.eval [])=l.map (·.eval env):=by
  rw [R7]; exact O7 fun x _=>h.lit x
theorem Rep.lito {n:Nat} {E:EV} {env:List AV} (h:Rep n E env) (l:Option Opd):(l.map (·.lit E)).map (·.eval [])=l.map (·.eval env):=by
  cases l with
  | none=>rfl
  | some x=>simp [h.lit x]
theorem Rep.aop {n:Nat} {E:EV} {env:List AV} (h:Rep n E env) (m:Nat→Option Blk) (b:Nat) (x:AOp):aop m [] b (x.lit E)=aop m env b x:=by
  cases x <;> simp only [AOp.lit,Sak.aop,h.lit,h.lits,h.lito]
  rename_i z ps
  rw [R7]
  congr 2
  exact O7 fun p _=>by simp only [Function.comp,h.lit]
theorem Rep.set {n:Nat} {E:EV} {env:List AV} (h:Rep n E env) {d:Nat} (hd:d<n) (v:AV):Rep n ((d,v) :: E) (env.set d v):=by
  refine ⟨by rw [List.length_set]; exact h.1,fun t=>?_⟩
  simp only [EV.get]
  split
  · rename_i hb
    obtain rfl:=S4 hb
    rw [E6,List.getElem?_set_self (by rw [h.1]; exact hd)]
    rfl
  · rename_i hb
    rw [h.2,E6,E6,List.getElem?_set_ne (X1 hb)]
theorem Ed:∀ (l:List AV) (i t:Nat),i≤t→(wK i l).get t=l.getD (t - i) .und
  | [],i,t,h=>by simp [wK,EV.get]
  | x :: l,i,t,h=>by
    simp only [wK,EV.get]
    split
    · rename_i hb
      obtain rfl:=S4 hb
      simp
    · rename_i hb
      have hne:=X1 hb
      rw [Ed l (i+1) t (by omega),show t - i=(t - (i+1))+1 from by omega]
      simp
theorem Rep.enum {n:Nat} {args:List AV} (h:args.length≤n):Rep n (wK 0 args) (args ++ List.replicate (n - args.length) .und):=by
  refine ⟨by simp; omega,fun t=>?_⟩
  rw [Ed args 0 t (Nat.zero_le _),Nat.sub_zero,E6,E6]
  by_cases ht:t<args.length
  · rw [List.getElem?_append_left ht]
  · rw [List.getElem?_eq_none (by omega),List.getElem?_append_right (by omega),List.getElem?_replicate]
    split <;> rfl
def On (E:EV) (m:Nat→Option Blk):Nat×Option (Nat×Bool)→Option AV
  | (t,none)=>some (E.get t)
  | (a,some (n,agg))=>(cS m n agg (E.get a)).map (·.v)
def Jo (E:EV) (m:Nat→Option Blk):List (Nat×Option (Nat×Bool))→Option (List AV)
  | []=>some []
  | r :: l=>match On E m r,Jo E m l with
    | some x,some xs=>some (x :: xs)
    | _,_=>none
theorem Rep.resL {n:Nat} {E:EV} {env:List AV} (h:Rep n E env) (m:Nat→Option Blk):∀ l,Jo E m l=resL env m l
  | []=>rfl
  | r :: l=>by
    have h1:On E m r=Gz env m r:=by
      obtain ⟨a,o⟩:=r
      cases o with
      | none=>simp only [On,Gz,h.2]
      | some p=>obtain ⟨k,g⟩:=p; simp only [On,Gz,h.2]
    simp only [Jo,Sak.resL,h1,h.resL m l]
    cases Gz env m r <;> cases Sak.resL env m l <;> rfl

section
variable (call:FuncId→List AV→AM→Nat→Option Ef) (n:Nat)
def XZ (x:AV) (as:List AV) (m:AM) (b:Nat):Option Ef:=match x with
  | .fn (.func g) first cap=>call g (first ++ as ++ cap) m b
  | _=>none
def XY (tb:List (Nat×Nat)) (x:AV) (as:List AV) (m:AM) (b:Nat):Option Ef:=match x with
  | .iface t v=>match FV tb t with
    | some g=>call g (v :: as) m b
    | none=>none
  | _=>none
def VQ (op:AOp) (E:EV) (m:AM) (b:Nat):Option Ef :=
  match op with
  | .call f args=>call f (args.map (·.evE E)) m b
  | .callv x args=>XZ call (x.evE E) (args.map (·.evE E)) m b
  | .invoke x tb args=>XY call tb (x.evE E) (args.map (·.evE E)) m b
  | x=>(aop m.get [] b (x.lit E)).map fun r=>(r.v,r.ups,r.rd)
def OS:Bool→AOp→EV→AM→Nat→Option Ef
  | true,op,E,m,b=>VQ call op E m b
  | false,_,_,_,_=>some (.tup [],[],[])
def OQ:AV→Bool→AOp→EV→AM→Nat→Option Ef
  | .bool t,want,op,E,m,b=>OS call (t == want) op E m b
  | .tup [],_,_,_,_,_=>some (.tup [],[],[])
  | _,_,_,_,_,_=>none
def VP:Option (Nat×Bool)→AOp→EV→AM→Nat→Option Ef
  | none,op,E,m,b=>VQ call op E m b
  | some (s,want),op,E,m,b=>OQ call (E.get s) want op E m b
def Yu (E:EV):Option Nat→AV→Option EV
  | none,_=>some E
  | some d,v=>match Nat.blt d n with
    | true=>some ((d,v) :: E)
    | false=>none
def NB : List AO→EV→AM→Nat→Option (EV×AM×Nat)
  | [],E,m,b=>some (E,m,b)
  | o :: rest,E,m,b=>match VP call o.guard o.op E m b with
    | some e=>match Yu n E o.dst e.1 with
      | some E'=>NB rest E' (m.upd e.2.1) (b+16)
      | none=>none
    | none=>none
def NC (un:List (Nat×Nat)):List AO→List Ef→EV→AM→Nat→Option (EV×AM×Nat)
  | [],tr,E,m,b=>match dynOk un tr.reverse with
    | true=>some (E,m,b)
    | false=>none
  | o :: rest,tr,E,m,b=>match VP call o.guard o.op E m b with
    | some e=>match Yu n E o.dst e.1 with
      | some E'=>NC un rest (e :: tr) E' (m.upd e.2.1) (b+16)
      | none=>none
    | none=>none
abbrev Tp:=Ex×EV×AM×Nat
def VS:Option (EV×AM×Nat)→Option Tp
  | some r=>some (.normal,r)
  | none=>none
def Fe (f:EV→AM→Nat→Option Tp):Option Tp→Option Tp
  | some (.normal,E,m,b)=>f E m b
  | some (.exit i,r)=>some (.exit i,r)
  | some (.ret,r)=>some (.ret,r)
  | none=>none
def DN (i:Nat):Option Tp→Option Tp
  | some (.exit j,r)=>match i9 j i with
    | true=>some (.normal,r)
    | false=>some (.exit j,r)
  | some (.normal,r)=>some (.normal,r)
  | some (.ret,r)=>some (.ret,r)
  | none=>none
def Oe (body:EV→AM→Nat→Option Tp) (b0:Nat):Nat→EV→AM→Nat→Option Tp
  | 0,_,_,_=>none
  | k+1,E,m,b=>match Nat.ble b0 b with
    | true=>Fe (Oe body b0 k) (body E m b)
    | false=>none
def Ai (b0 k:Nat):ACode→EV→AM→Nat→Option Tp
  | .skip,E,m,b=>some (.normal,E,m,b)
  | .ret,E,m,b=>some (.ret,E,m,b)
  | .exit i,E,m,b=>some (.exit i,E,m,b)
  | .seq x y,E,m,b=>Fe (Ai b0 k y) (Ai b0 k x E m b)
  | .block i x,E,m,b=>DN i (Ai b0 k x E m b)
  | .cond c x y,E,m,b=>match c.evE E with
    | .bool true=>Ai b0 k x E m b
    | .bool false=>Ai b0 k y E m b
    | _=>none
  | .loop x,E,m,b=>Oe (Ai b0 k x) b0 k E m b
  | .reg ops,E,m,b=>VS (NB call n ops E m b)
  | .regT ops un,E,m,b=>VS (NC call n un ops [] E m b)
def HY (b:Nat) (m:AM) (l:List Nat):List Nat:=fA b (sV m l) l
def Mw (b:Nat) (v:AV) (m':AM):List (Nat×Nat):=Sj b (HY b m' (HY b m' (fA b (v.nms ++ Jj b m') [])))
def Lm (b:Nat) (m m':AM) (v:AV) (ren:List (Nat×Nat)):Option Ef :=
  match stOk b (b+15) [] ren m' && inlOk b m [] ren (v.tr (stT b (b+15) [] ren m')) (stM b (b+15) [] ren (stT b (b+15) [] ren m') m') with
  | true=>some (v.tr (stT b (b+15) [] ren m'),AN m (stM b (b+15) [] ren (stT b (b+15) [] ren m') m'),m.map (·.1))
  | false=>none
def LT (b:Nat) (m:AM) (res:List (Nat×Option (Nat×Bool))):Option Tp→Option Ef
  | none=>none
  | some (.exit _,_)=>none
  | some (_,env',m',_)=>match Jo env' m'.get res with
    | some l=>Lm b m m' (iF l) (Mw b (iF l) m')
    | none=>none
def WL (k:Nat) (A:AFn) (args:List AV) (b:Nat) (m:AM):Option Ef :=
  match decide (args.length≤A.n) && decide (1≤b) && decide (m.map (·.1)).Nodup && m.all (fun p=>decide (p.1<b - 1) && p.2.inN (m.map (·.1))) && jX (m.map (·.1)) args with
  | true=>LT b m A.res (Ai call A.n b k A.code (wK 0 args) m b)
  | false=>none
def A2 (k:Nat) (args:List AV) (b:Nat) (M:AM):Option AFn→Option Ef
  | none=>none
  | some A=>WL call k A args b (jY M (reachM M (fA 1 (jL args) [])))
def WT (f:Unit→Option Ef):Option Ef→Option Ef
  | some e=>some e
  | none=>f ()
end
def OP (tab:List (Nat×AFn)) (L:List OE) (k:Nat):Nat→FuncId→List AV→AM→Nat→Option Ef
  | 0,_,_,_,_=>none
  | n+1,f,args,M,b=>WT (fun _=>A2 (OP tab L k n) k args b M (LI tab f)) (GG L f args M b)
def ME (res:List (Nat×Option (Nat×Bool))):Option Tp→Option AV
  | none=>none
  | some (.exit _,_)=>none
  | some (_,env',m',_)=>match Jo env' m'.get res with
    | some l=>match decide (m'.map (·.1)).Nodup && m'.all (fun p=>decide (1≤p.1)) && (fA 1 (iF l).nms []).all (fun g=>decide (1≤g)) && fS m' (fA 1 (iF l).nms []) with
      | true=>some ((iF l).tr (stT 1 1 (fA 1 (iF l).nms []) [] m'))
      | false=>none
    | none=>none
def QK (tab:List (Nat×AFn)) (L:List OE) (k n:Nat) (args:List AV):Option AFn→Option AV
  | none=>none
  | some A=>match decide (args.length≤A.n) with
    | true=>ME A.res (Ai (OP tab L k n) A.n 1 k A.code (wK 0 args) [] 1)
    | false=>none
def QL (tab:List (Nat×AFn)) (L:List OE) (k n:Nat) (f:FuncId) (args:List AV):Option AV:=QK tab L k n args (LI tab f)

section
variable {P:Program} {call:FuncId→List AV→AM→Nat→Option Ef}
def sG (P:Program) (call:FuncId→List AV→AM→Nat→Option Ef):Prop:=∀ f args m b e,call f args m b=some e→∀ κ:Ef→Prop,κ e→AC P f args m b κ
theorem Wr (hc:sG P call) {n:Nat} {op:AOp} {E:EV} {env:List AV} (hr:Rep n E env) {m:AM} {b:Nat} {e:Ef} (h:VQ call op E m b=some e) {κ:Ef→Prop} (hk:κ e):lK P op κ env m b:=by
  unfold VQ at h
  unfold lK
  split at h
  · rw [hr.opds] at h; exact hc _ _ _ _ _ h _ hk
  · rw [hr.opds,hr.opd] at h
    unfold XZ at h
    split at h
    · rename_i heq; simp only [heq,vY]; exact hc _ _ _ _ _ h _ hk
    · cases h
  · rw [hr.opds,hr.opd] at h
    unfold XY at h
    split at h
    · rename_i heq
      split at h
      · rename_i hg; simp only [heq,Ca,hg]; exact hc _ _ _ _ _ h _ hk
      · cases h
    · cases h
  · rw [hr.aop] at h
    simp only [Option.map_eq_some_iff] at h
    obtain ⟨r,h1,rfl⟩:=h
    simp only [h1,nJ]
    exact hk
theorem Wq (hc:sG P call) {n:Nat} {g:Option (Nat×Bool)} {op:AOp} {E:EV} {env:List AV} (hr:Rep n E env) {m:AM} {b:Nat} {e:Ef} (h:VP call g op E m b=some e) {κ:Ef→Prop} (hk:κ e):gK P g op κ env m b:=by
  cases g with
  | none=>exact Wr hc hr h hk
  | some p =>
    obtain ⟨s,w⟩:=p
    simp only [VP] at h
    simp only [gK]
    rw [hr.2] at h
    generalize env.getD s .und=x at h ⊢
    cases x with
    | bool t =>
      simp only [OQ] at h
      simp only [jW]
      cases htw:(t == w) with
      | true=>rw [htw] at h; exact Wr hc hr h hk
      | false=>rw [htw] at h; simp only [OS,E9] at h; subst h; exact hk
    | tup l =>
      cases l with
      | nil=>simp only [OQ,E9] at h; subst h; exact hk
      | cons y l=>simp [OQ] at h
    | _=>simp [OQ] at h
theorem Ol {n:Nat} {E E':EV} {env:List AV} (hr:Rep n E env) {d:Option Nat} {v:AV} (h:Yu n E d v=some E'):Rep n E' (qX env d v):=by
  cases d with
  | none=>simp only [Yu,E9] at h; subst h; exact hr
  | some d =>
    simp only [Yu] at h
    split at h
    · rename_i hd
      simp only [E9] at h; subst h
      exact hr.set (M4 hd) v
    · cases h
theorem Ws (hc:sG P call) {n:Nat}:∀ {xs:List AO} {E:EV} {env:List AV} {m:AM} {b:Nat} {r:EV×AM×Nat},Rep n E env→NB call n xs E m b=some r→∃ env',Rep n r.1 env'∧∀ k:KE,k env' r.2.1 r.2.2→xI P xs k env m b
  | [],E,env,m,b,r,hr,h=>by simp only [NB,E9] at h; subst h; exact ⟨env,hr,fun k hk=>hk⟩
  | o :: rest,E,env,m,b,r,hr,h=>by
    simp only [NB] at h
    split at h
    · rename_i e he
      split at h
      · rename_i E' hE
        obtain ⟨env',h1,h2⟩:=Ws hc (Ol hr hE) h
        exact ⟨env',h1,fun k hk=>Wq hc hr he (h2 k hk)⟩
      · cases h
    · cases h
theorem Wt (hc:sG P call) {n:Nat} {un:List (Nat×Nat)}:∀ {xs:List AO} {tr:List Ef} {E:EV} {env:List AV} {m:AM} {b:Nat} {r:EV×AM×Nat},Rep n E env→NC call n un xs tr E m b=some r→∃ env',Rep n r.1 env'∧∀ k:KE,k env' r.2.1 r.2.2→vR P un xs k tr env m b
  | [],tr,E,env,m,b,r,hr,h=>by
    simp only [NC] at h
    split at h
    · rename_i hd; simp only [E9] at h; subst h; exact ⟨env,hr,fun k hk=>⟨hd,hk⟩⟩
    · cases h
  | o :: rest,tr,E,env,m,b,r,hr,h=>by
    simp only [NC] at h
    split at h
    · rename_i e he
      split at h
      · rename_i E' hE
        obtain ⟨env',h1,h2⟩:=Wt hc (Ol hr hE) h
        exact ⟨env',h1,fun k hk=>Wq hc hr he (h2 k hk)⟩
      · cases h
    · cases h
theorem Wo (hc : sG P call) {n b0 k:Nat}:∀ {c:ACode} {E:EV} {env:List AV} {m:AM} {b:Nat} {r:Tp},Rep n E env→Ai call n b0 k c E m b=some r→∃ env',Rep n r.2.1 env'∧∀ K:KX,K r.1 env' r.2.2.1 r.2.2.2→vc P b0 c K env m b:=by
  intro c
  induction c with
  | skip=>intro E env m b r hr h; simp only [Ai,E9] at h; subst h; exact ⟨env,hr,fun K hk=>hk⟩
  | ret=>intro E env m b r hr h; simp only [Ai,E9] at h; subst h; exact ⟨env,hr,fun K hk=>hk⟩
  | exit i=>intro E env m b r hr h; simp only [Ai,E9] at h; subst h; exact ⟨env,hr,fun K hk=>hk⟩
  | seq x y ihx ihy =>
    intro E env m b r hr h
    simp only [Ai] at h
    simp only [vc]
    cases hx:Ai call n b0 k x E m b with
    | none=>rw [hx] at h; cases h
    | some q =>
      rw [hx] at h
      obtain ⟨e,env1,m1,b1⟩:=q
      obtain ⟨env',h1,h2⟩:=ihx hr hx
      cases e with
      | normal =>
        obtain ⟨env2,h3,h4⟩:=ihy h1 h
        exact ⟨env2,h3,fun K hk=>h2 _ (h4 K hk)⟩
      | exit i=>simp only [Fe,E9] at h; subst h; exact ⟨env',h1,fun K hk=>h2 _ hk⟩
      | ret=>simp only [Fe,E9] at h; subst h; exact ⟨env',h1,fun K hk=>h2 _ hk⟩
  | block i x ih =>
    intro E env m b r hr h
    simp only [Ai] at h
    simp only [vc]
    cases hx:Ai call n b0 k x E m b with
    | none=>rw [hx] at h; cases h
    | some q =>
      rw [hx] at h
      obtain ⟨e,env1,m1,b1⟩:=q
      obtain ⟨env',h1,h2⟩:=ih hr hx
      cases e with
      | normal=>simp only [DN,E9] at h; subst h; exact ⟨env',h1,fun K hk=>h2 _ hk⟩
      | ret=>simp only [DN,E9] at h; subst h; exact ⟨env',h1,fun K hk=>h2 _ hk⟩
      | exit j =>
        simp only [DN] at h
        split at h
        · rename_i hj
          simp only [E9] at h; subst h
          exact ⟨env',h1,fun K hk=>h2 _ (by simp only [rT,if_pos (S4 hj)]; exact hk)⟩
        · rename_i hj
          simp only [E9] at h; subst h
          exact ⟨env',h1,fun K hk=>h2 _ (by simp only [rT,if_neg (X1 hj)]; exact hk)⟩
  | cond q x y ihx ihy =>
    intro E env m b r hr h
    simp only [Ai] at h
    simp only [vc]
    rw [hr.opd] at h
    split at h
    · rename_i hq; simp only [hq,Eb,zB]; exact ihx hr h
    · rename_i hq; simp only [hq,Eb,zB]; exact ihy hr h
    · cases h
  | loop x ih =>
    intro E env m b r hr h
    simp only [Ai] at h
    simp only [vc]
    have main : ∀ j E env m b,Rep n E env→Oe (Ai call n b0 k x) b0 j E m b=some r→b0≤b∧∃ env',Rep n r.2.1 env'∧∀ K:KX,K r.1 env' r.2.2.1 r.2.2.2→Mu P b0 x K j env m b:=by
      intro j
      induction j with
      | zero=>intro E env m b _ h; cases h
      | succ j ihn =>
        intro E env m b hr h
        simp only [Oe] at h
        split at h
        · rename_i hb
          refine ⟨M4 hb,?_⟩
          cases hx:Ai call n b0 k x E m b with
          | none=>rw [hx] at h; cases h
          | some q =>
            rw [hx] at h
            obtain ⟨e,env1,m1,b1⟩:=q
            obtain ⟨env',h1,h2⟩:=ih hr hx
            cases e with
            | normal =>
              obtain ⟨h3,env2,h4,h5⟩:=ihn _ _ _ _ h1 h
              exact ⟨env2,h4,fun K hk=>h2 _ ⟨h3,h5 K hk⟩⟩
            | exit i=>simp only [Fe,E9] at h; subst h; exact ⟨env',h1,fun K hk=>h2 _ hk⟩
            | ret=>simp only [Fe,E9] at h; subst h; exact ⟨env',h1,fun K hk=>h2 _ hk⟩
        · cases h
    obtain ⟨h1,env',h2,h3⟩:=main _ _ _ _ _ hr h
    exact ⟨env',h2,fun K hk=>kS k h1 (h3 K hk)⟩
  | reg ops =>
    intro E env m b r hr h
    simp only [Ai] at h
    cases hx:NB call n ops E m b with
    | none=>rw [hx] at h; cases h
    | some q =>
      rw [hx] at h; simp only [VS,E9] at h; subst h
      obtain ⟨env',h1,h2⟩:=Ws hc hr hx
      exact ⟨env',h1,fun K hk=>h2 _ hk⟩
  | regT ops un =>
    intro E env m b r hr h
    simp only [Ai] at h
    cases hx:NC call n un ops [] E m b with
    | none=>rw [hx] at h; cases h
    | some q =>
      rw [hx] at h; simp only [VS,E9] at h; subst h
      obtain ⟨env',h1,h2⟩:=Wt hc hr hx
      exact ⟨env',h1,fun K hk=>h2 _ hk⟩
theorem LD (hmix:P.follows .mixedOrders=true) (hc:sG P call) {k:Nat} {f:FuncId} {A:AFn} (hA:xf P f=some A) {args:List AV} {b:Nat} {M:AM} {e:Ef} (h:WL call k A args b (jY M (reachM M (fA 1 (jL args) [])))=some e) {κ:Ef→Prop} (hk:κ e):AC P f args M b κ:=by
  generalize hm:jY M (reachM M (fA 1 (jL args) []))=m at h
  unfold WL at h
  split at h
  · rename_i hq
    simp only [D9,decide_eq_true_eq] at hq
    obtain ⟨⟨⟨⟨q1,q2⟩,q3⟩,q4⟩,q5⟩:=hq
    cases hx:Ai call A.n b k A.code (wK 0 args) m b with
    | none=>rw [hx] at h; cases h
    | some r =>
      rw [hx] at h
      obtain ⟨x,E',m',b'⟩:=r
      obtain ⟨env',hr',hv⟩:=Wo hc (Rep.enum q1) hx
      simp only at hr' hv
      rw [show LT b m A.res (some (x,E',m',b'))=(match x with | .exit _=>none | _=>match resL env' m'.get A.res with | some l=>Lm b m m' (iF l) (Mw b (iF l) m') | none=>none) from by cases x <;> simp only [LT,hr'.resL]] at h
      have main:(match resL env' m'.get A.res with | some l=>Lm b m m' (iF l) (Mw b (iF l) m') | none=>none)=some e→(∀ fin l,resL env' m'.get A.res=some l→fin (iF l) m' b'→gP A.res fin x env' m' b')→AC P f args M b κ:=by
        intro h hr
        split at h
        · rename_i l hl
          unfold Lm at h
          split at h
          · rename_i hs
            simp only [E9] at h
            rw [D9] at hs
            exact AC.inlE hmix hA q1 q2 hm q3 q4 q5 ⟨l,m',b',⟨Mw b (iF l) m',hs.1,hs.2,by rw [h]; exact hk⟩,fun e' he=>hv _ (hr _ l hl he)⟩
          · cases h
        · cases h
      cases x with
      | exit i=>cases h
      | normal=>exact main h fun fin l hl hf=>by simp only [gP,hl,lO]; exact hf
      | ret=>exact main h fun fin l hl hf=>by simp only [gP,hl,lO]; exact hf
  · cases h
def At (P:Program) (tab:List (Nat×AFn)):Prop:=∀ p,p∈tab→xf P p.1=some p.2
def yZ (P:Program) (L:List OE):Prop:=∀ o,o∈L→cX P o.f o.args (o.v,[],[])
theorem Yi {tab:List (Nat×AFn)} (ht:At P tab):∀ {f:Nat} {A:AFn},LI tab f=some A→xf P f=some A:=by
  induction tab with
  | nil=>intro f A h; cases h
  | cons p l ih =>
    intro f A h
    simp only [LI] at h
    split at h
    · rename_i hb
      simp only [E9] at h
      rw [← h,← S4 hb]
      exact ht p (J7 ..)
    · exact ih (fun q hq=>ht q (H8 _ hq)) h
theorem GF {L:List OE} (hL:yZ P L) {f:Nat} {xs:List AV}:∀ {v:AV},GE f xs L=some v→cX P f xs (v,[],[]):=by
  induction L with
  | nil=>intro v h; cases h
  | cons o l ih =>
    intro v h
    simp only [GE] at h
    split at h
    · rename_i hb
      rw [D9] at hb
      simp only [E9] at h
      rw [← h,← S4 hb.1]
      exact Nl (wO _ _ hb.2) (hL o (J7 ..))
    · exact ih (fun q hq=>hL q (H8 _ hq)) h
theorem GH {L:List OE} (hL:yZ P L):sG P (GG L):=by
  intro f args m b e h κ hk
  unfold GG at h
  split at h
  · cases h
  · split at h
    · cases h
    · rename_i v hv
      split at h
      · rename_i hq
        simp only [D9,decide_eq_true_eq] at hq
        simp only [E9] at h
        rw [← h] at hk
        exact AC.pk _ (GF hL hv) rfl hq.1.1 hq.1.2 hq.2 hk
      · cases h
theorem Wp (hmix:P.follows .mixedOrders=true) {tab:List (Nat×AFn)} {L:List OE} (ht:At P tab) (hL:yZ P L) {k:Nat}:∀ n,sG P (OP tab L k n)
  | 0=>fun f args m b e h=>by cases h
  | n + 1=>fun f args m b e h κ hk=>by
    simp only [OP] at h
    cases ho:GG L f args m b with
    | some e' =>
      rw [ho] at h
      simp only [WT,E9] at h
      subst h
      exact GH hL _ _ _ _ _ ho _ hk
    | none =>
      rw [ho] at h
      simp only [WT] at h
      cases hA:LI tab f with
      | none=>rw [hA] at h; cases h
      | some A=>rw [hA] at h; exact LD hmix (Wp hmix ht hL n) (Yi ht hA) h hk
theorem KM (hmix:P.follows .mixedOrders=true) {tab:List (Nat×AFn)} {L:List OE} (ht:At P tab) (hL:yZ P L) {k n:Nat} {f:FuncId} {args:List AV} {v:AV} (h:QL tab L k n f args=some v):cX P f args (v,[],[]):=by
  unfold QL at h
  cases hA:LI tab f with
  | none=>rw [hA] at h; cases h
  | some A =>
    rw [hA] at h
    unfold QK at h
    simp only [] at h
    split at h
    · rename_i hl
      refine aI hmix (Yi ht hA) (of_decide_eq_true hl) fun _ _=>?_
      cases hx:Ai (OP tab L k n) A.n 1 k A.code (wK 0 args) [] 1 with
      | none=>rw [hx] at h; cases h
      | some r =>
        rw [hx] at h
        obtain ⟨x,E',m',b'⟩:=r
        obtain ⟨env',hr',hv⟩:=Wo (Wp hmix ht hL n) (Rep.enum (of_decide_eq_true hl)) hx
        simp only at hr' hv
        refine hv _ ?_
        rw [show ME A.res (some (x,E',m',b'))=(match x with | .exit _=>none | _=>match resL env' m'.get A.res with
            | some l=>match decide (m'.map (·.1)).Nodup && m'.all (fun p=>decide (1≤p.1)) && (fA 1 (iF l).nms []).all (fun g=>decide (1≤g)) && fS m' (fA 1 (iF l).nms []) with
              | true=>some ((iF l).tr (stT 1 1 (fA 1 (iF l).nms []) [] m'))
              | false=>none
            | none=>none) from by cases x <;> simp only [ME,hr'.resL]] at h
        have main:(match resL env' m'.get A.res with
            | some l=>match decide (m'.map (·.1)).Nodup && m'.all (fun p=>decide (1≤p.1)) && (fA 1 (iF l).nms []).all (fun g=>decide (1≤g)) && fS m' (fA 1 (iF l).nms []) with
              | true=>some ((iF l).tr (stT 1 1 (fA 1 (iF l).nms []) [] m'))
              | false=>none
            | none=>none)=some v→(∀ fin l,resL env' m'.get A.res=some l→fin (iF l) m' b'→gP A.res fin x env' m' b')→gP A.res (gM 1 [] (v,[],[])) x env' m' b':=by
          intro h hr
          split at h
          · rename_i l hl
            split at h
            · rename_i hs
              simp only [D9,decide_eq_true_eq] at hs
              simp only [E9] at h
              exact hr _ l hl (Nt rfl hs.1.1.1 hs.1.1.2 hs.1.2 hs.2 rfl (Wk.of_eq h))
            · cases h
          · cases h
        cases x with
        | exit i=>cases h
        | normal=>exact main h fun fin l hl hf=>by simp only [gP,hl,lO]; exact hf
        | ret=>exact main h fun fin l hl hf=>by simp only [gP,hl,lO]; exact hf
    · cases h
end
end Go.Sak
