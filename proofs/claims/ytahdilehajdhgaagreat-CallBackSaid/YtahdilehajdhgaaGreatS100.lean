/- Part S100 of the proofs about the program: Zd, Ev. Conditions: none. -/
import Derived.Test.YtahdilehajdhgaaGreatS03
namespace Go.Sak
open Go Go.RowKit
set_option linter.unusedVariables false
set_option linter.unusedSimpArgs false
section
variable {P:Program} {κ:Ef→Prop} {m:AM} {b:Nat}
theorem fin_in {b0:Nat} {m0 m2:AM} {v v':AV} (Z:List Nat) (ren:List (Nat×Nat)) (k1:stOk b0 (b0+15) Z ren m=true) (k2:zPure m Z=true) (h2:stM b0 (b0+15) Z ren (stT b0 (b0+15) Z ren m) m=m2)
    (hnd:(m2.map (·.1)).Nodup) (hv:v.tr (stT b0 (b0+15) Z ren m)=v'):FinS b0 m0 (v',inlU m0 m2,[]) v m b:=by
  have hs:=SubS.step (env:=[v]) (b:=b) k1 k2
  rw [h2] at hs
  exact ⟨v',m2,b0+16,by rw [← hv]; exact hs,Nat.le_refl _,inlU_get hnd,rfl⟩
theorem fin_wk {b0:Nat} {m0 m2:AM} {v v':AV} (Z:List Nat) (ren:List (Nat×Nat)) (k1:stOk b0 (b0+15) Z ren m=true) (k2:zPure m Z=true) (h2:stM b0 (b0+15) Z ren (stT b0 (b0+15) Z ren m) m=m2)
    (hnd:(m2.map (·.1)).Nodup) (hv:Wk (v.tr (stT b0 (b0+15) Z ren m)) v'):FinS b0 m0 (v',inlU m0 m2,[]) v m b:=by
  have hs:=SubS.step (env:=[v]) (b:=b) k1 k2
  rw [h2] at hs
  exact ⟨v',m2,b0+16,hs.trans (SubS.weak hv),Nat.le_refl _,inlU_get hnd,rfl⟩
theorem AC.mb {M m2:AM} {f:FuncId} {args:List AV} {v:AV} (B0:Nat) (h:MCb P f args (v,inlU m m2,[]) m.get B0) (h1:1≤B0) (hb:B0≤b) (hM:restM M (reachM M (pickN 1 (nmsL args) []))=m) (hnd:(m.map (·.1)).Nodup)
    (h0:m.all (fun p=>decide (p.1<B0 - 1) && p.2.inN (m.map (·.1)))=true) (hargs:inNs (m.map (·.1)) args=true) (k3:m2.all (fun p=>decide (p.1<B0+15) && (decide (B0≤p.1) || (m.map (·.1)).contains p.1))=true)
    (k4:κ (v.tr (upT B0 b),(inlU m m2).map (upP B0 b),m.map (·.1))):AC P f args M b κ:=by
  have hlt:∀ n B,m.get n=some B→n<B0 - 1:=fun n B hB=>by
    have:=List.all_eq_true.1 h0 _ (AM.mem_of_get hB)
    simp only [Bool.and_eq_true,decide_eq_true_eq] at this
    exact this.1
  have hks:∀ n,n∈m.map (·.1)↔(m.get n).isSome=true:=fun n=>⟨fun hm=>by
    obtain ⟨⟨k,B⟩,hk,rfl⟩:=List.mem_map.1 hm
    rw [AM.get_of_mem hnd hk]; rfl,fun hs=>by
    obtain ⟨B,hB⟩:=Option.isSome_iff_exists.1 hs
    exact List.mem_map.2 ⟨(n,B),AM.mem_of_get hB,rfl⟩⟩
  have:=mcl_lift (kz:=false) (Z:=[]) (args':=args) (m:=M.get) h h1 hb (fun n B hB=>⟨hlt n B hB,restM_get hM (AM.mem_of_get hB)⟩) hks (fun T hT' n B hB=>?_) (fun g hg=>by cases hg) ?_ (fun p hp=>?_) (.inr (.inl rfl))
  · refine ⟨_,this,?_⟩
    simp only [kills,List.nil_append,Bool.false_eq_true,if_false,List.append_nil]
    exact k4
  · have hB':=List.all_eq_true.1 h0 _ (AM.mem_of_get hB)
    simp only [Bool.and_eq_true] at hB'
    exact Blk.tr_inN (fun g hg=>hT' g ((hks g).1 hg)) hB'.2
  · refine trs_inN (fun g hg=>?_) args hargs
    have hc:(m.map (·.1)).contains g=true:=List.contains_iff_mem.2 hg
    exact ⟨fun r o=>by simp only [vwT,hc]; simp,fun l=>by simp only [vwT,hc]; simp,by simp only [vwT,hc]; simp⟩
  · simp only [inlU] at hp
    rcases List.mem_append.1 hp with hp | hp
    · obtain ⟨q,hq,rfl⟩:=List.mem_map.1 hp
      have hg:=AM.get_of_mem hnd hq
      have:=hlt q.1 q.2 hg
      exact ⟨by simp only []; omega,fun _=>by simp only [hg]; rfl⟩
    · obtain ⟨q,hq,rfl⟩:=List.mem_map.1 hp
      have:=List.all_eq_true.1 k3 q hq
      simp only [Bool.and_eq_true,Bool.or_eq_true,decide_eq_true_eq,List.contains_iff_mem] at this
      refine ⟨this.1,fun hb=>?_⟩
      rcases this.2 with r | r
      · simp only [] at hb; omega
      · exact (hks _).1 r
theorem AC.mc {M m' m2:AM} {f:FuncId} {args:List AV} {v:AV} (B0:Nat) (h:MCb P f args (v,inlU m m2,[]) m.get B0) (h1:1≤B0) (hb:B0≤b) (hM:restM M (reachM M (pickN 1 (nmsL args) []))=m') (hm:m'=m) (hnd:(m.map (·.1)).Nodup)
    (h0:m.all (fun p=>decide (p.1<B0 - 1) && p.2.inN (m.map (·.1)))=true) (hargs:inNs (m.map (·.1)) args=true) (k3:m2.all (fun p=>decide (p.1<B0+15) && (decide (B0≤p.1) || (m.map (·.1)).contains p.1))=true)
    (k4:κ (v.tr (upT B0 b),(inlU m m2).map (upP B0 b),m.map (·.1))):AC P f args M b κ:=AC.mb B0 h h1 hb (hM.trans hm) hnd h0 hargs k3 k4
end

mutual
/-- Two values are one (values without names). -/
def AV.same:AV→AV→Bool
  | .int k a,.int k' b=>decide (k=k') && decide (a=b)
  | .bool a,.bool b=>a == b
  | .nilp,.nilp=>true
  | .slnil,.slnil=>true
  | .mapnil,.mapnil=>true
  | .fnnil,.fnnil=>true
  | .ifnil,.ifnil=>true
  | .sle s,.sle t=>decide (s=t)
  | .slv s r,.slv t q=>decide (s=t) && sameLL r q
  | .agg a,.agg b=>sameL a b
  | .tup a,.tup b=>sameL a b
  | .ptr g r o,.ptr g' r' o'=>decide (g=g') && decide (r=r') && decide (o=o')
  | .slm g l,.slm g' l'=>decide (g=g') && decide (l=l')
  | .mapm g,.mapm g'=>decide (g=g')
  | .pv a,.pv b=>sameL a b
  | .fn f a c,.fn f' a' c'=>decide (f=f') && sameL a a' && sameL c c'
  | .iface t x,.iface t' y=>decide (t=t') && x.same y
  | _,_=>false
def sameL:List AV→List AV→Bool
  | [],[]=>true
  | x :: l,y :: q=>x.same y && sameL l q
  | _,_=>false
def sameLL:List (List AV)→List (List AV)→Bool
  | [],[]=>true
  | x :: l,y :: q=>sameL x y && sameLL l q
  | _,_=>false
end
mutual
theorem AV.same_eq:∀ (x y:AV),x.same y=true→x=y
  | .int k a,y,h=>by cases y <;> simp [AV.same] at h; rw [h.1,h.2]
  | .bool a,y,h=>by cases y <;> simp [AV.same] at h; rw [h]
  | .nilp,y,h=>by cases y <;> simp [AV.same] at h; rfl
  | .slnil,y,h=>by cases y <;> simp [AV.same] at h; rfl
  | .mapnil,y,h=>by cases y <;> simp [AV.same] at h; rfl
  | .fnnil,y,h=>by cases y <;> simp [AV.same] at h; rfl
  | .ifnil,y,h=>by cases y <;> simp [AV.same] at h; rfl
  | .sle s,y,h=>by cases y <;> simp [AV.same] at h; rw [h]
  | .slv s r,y,h=>by cases y <;> simp [AV.same] at h; rw [h.1,sameLL_eq _ _ h.2]
  | .agg a,y,h=>by cases y <;> simp [AV.same] at h; rw [sameL_eq _ _ h]
  | .tup a,y,h=>by cases y <;> simp [AV.same] at h; rw [sameL_eq _ _ h]
  | .str _,y,h=>by cases y <;> simp [AV.same] at h
  | .ptr _ _ _,y,h=>by cases y <;> simp [AV.same] at h; rw [h.1.1,h.1.2,h.2]
  | .pv a,y,h=>by cases y <;> simp [AV.same] at h; rw [sameL_eq _ _ h]
  | .slm _ _,y,h=>by cases y <;> simp [AV.same] at h; rw [h.1,h.2]
  | .mapm _,y,h=>by cases y <;> simp [AV.same] at h; rw [h]
  | .fn _ a c,y,h=>by cases y <;> simp [AV.same] at h; rw [h.1.1,sameL_eq _ _ h.1.2,sameL_eq _ _ h.2]
  | .iface _ x,y,h=>by cases y <;> simp [AV.same] at h; rw [h.1,AV.same_eq _ _ h.2]
  | .und,y,h=>by cases y <;> simp [AV.same] at h
theorem sameL_eq:∀ (x y:List AV),sameL x y=true→x=y
  | [],y,h=>by cases y <;> simp [sameL] at h; rfl
  | a :: l,y,h=>by
    cases y with
    | nil=>simp [sameL] at h
    | cons b q=>simp only [sameL,Bool.and_eq_true] at h; rw [AV.same_eq a b h.1,sameL_eq l q h.2]
theorem sameLL_eq:∀ (x y:List (List AV)),sameLL x y=true→x=y
  | [],y,h=>by cases y <;> simp [sameLL] at h; rfl
  | a :: l,y,h=>by
    cases y with
    | nil=>simp [sameLL] at h
    | cons b q=>simp only [sameLL,Bool.and_eq_true] at h; rw [sameL_eq a b h.1,sameLL_eq l q h.2]
end
def sameP:List (AV×AV)→List (AV×AV)→Bool
  | [],[]=>true
  | x :: l,y :: q=>x.1.same y.1 && x.2.same y.2 && sameP l q
  | _,_=>false
theorem sameP_eq:∀ (x y:List (AV×AV)),sameP x y=true→x=y
  | [],y,h=>by cases y <;> simp [sameP] at h; rfl
  | a :: l,y,h=>by
    cases y with
    | nil=>simp [sameP] at h
    | cons b q =>
      simp only [sameP,Bool.and_eq_true] at h
      rw [sameP_eq l q h.2,show a=b from Prod.ext (AV.same_eq _ _ h.1.1) (AV.same_eq _ _ h.1.2)]
def Blk.same:Blk→Blk→Bool
  | .rows t s r,.rows t' s' r'=>decide (t=t') && decide (s=s') && sameLL r r'
  | .mp e,.mp e'=>sameP e e'
  | _,_=>false
theorem Blk.same_eq (x y:Blk) (h:x.same y=true):x=y:=by
  cases x <;> cases y <;> simp [Blk.same] at h
  · rw [h.1.1,h.1.2,sameLL_eq _ _ h.2]
  · rw [sameP_eq _ _ h]
def chd (m:AM) (p:Nat×Blk):Bool:=match m.get p.1 with
  | some B=>!(B.same p.2)
  | none=>true
def chU (m m2:AM):List (Nat×Option Blk):=((m.map (·.1)).filter fun g=>!(m2.map (·.1)).contains g).map (fun g=>(g,none)) ++ (m2.filter (chd m)).map fun p=>(p.1,some p.2)
theorem get_filter {q:Nat×Blk→Bool}:∀ {m:AM} {n:Nat},(m.map (·.1)).Nodup→AM.get (m.filter q) n=(match m.get n with | some B=>if q (n,B) then some B else none | none=>none)
  | [],n,_=>rfl
  | (k,B) :: l,n,h=>by
    simp only [List.map_cons,List.nodup_cons] at h
    have ih:=get_filter (q:=q) (n:=n) h.2
    by_cases hn:n=k
    · subst hn
      have h0:AM.get l n=none:=get_none_of h.1
      rw [h0] at ih
      simp only [List.filter_cons,AM.get,if_pos]
      by_cases hq:q (n,B)=true
      · rw [if_pos hq,if_pos hq]; simp [AM.get]
      · rw [if_neg hq,if_neg hq]; exact ih
    · simp only [List.filter_cons,AM.get,if_neg hn]
      split
      · simp only [AM.get,if_neg hn]; exact ih
      · exact ih
theorem chU_get {m m2:AM} (h:(m2.map (·.1)).Nodup):m2.get=(m.upd (chU m m2)).get:=by
  rw [AM.get_upd]
  funext n
  unfold chU
  have h2:((m2.filter (chd m)).map (·.1)).Nodup:=h.sublist (List.filter_sublist.map _)
  rw [ups_append,ups_sets h2,get_filter h,ups_kill]
  have hks : ∀ (M:AM),n∈M.map (·.1)↔(M.get n).isSome=true:=fun M=>⟨fun hm=>by
    cases hg:M.get n with
    | some B=>rfl
    | none =>
      exfalso
      have : ∀ (M:AM),n∈M.map (·.1)→M.get n=none→False:=by
        intro M
        induction M with
        | nil=>intro h; cases h
        | cons p l ih =>
          obtain ⟨k,B⟩:=p
          intro h1 h2
          simp only [AM.get] at h2
          split at h2
          · cases h2
          · rename_i hk
            rcases List.mem_cons.1 h1 with h1 | h1
            · exact hk h1
            · exact ih h1 h2
      exact this M hm hg,fun hs=>by
    obtain ⟨B,hB⟩:=Option.isSome_iff_exists.1 hs
    exact List.mem_map.2 ⟨(n,B),AM.mem_of_get hB,rfl⟩⟩
  cases hg:m2.get n with
  | none =>
    simp only []
    split
    · rfl
    · rename_i hn
      cases hm:m.get n with
      | none=>rfl
      | some B =>
        exfalso
        refine hn (List.mem_filter.2 ⟨(hks m).2 (by rw [hm]; rfl),?_⟩)
        have:¬ n∈m2.map (·.1):=fun hh=>by have:=(hks m2).1 hh; rw [hg] at this; cases this
        simpa using this
  | some B =>
    simp only []
    by_cases hc:chd m (n,B)=true
    · rw [if_pos hc]
    · rw [if_neg hc]
      simp only []
      have hin:n∈m2.map (·.1):=(hks m2).2 (by rw [hg]; rfl)
      rw [if_neg (fun hh=>by
        have:=(List.mem_filter.1 hh).2
        rw [List.contains_iff_mem.2 hin] at this; cases this)]
      unfold chd at hc
      simp only [] at hc
      split at hc
      · rename_i B' hB'
        rw [hB']
        simp only [Bool.not_eq_true',Bool.not_eq_false] at hc
        rw [Blk.same_eq _ _ hc]
      · exact absurd rfl hc
theorem chU_mem {m m2:AM} {p:Nat×Option Blk} (h:p∈chU m m2):(p.2=none∧p.1∈m.map (·.1))∨∃ B,p.2=some B∧(p.1,B)∈m2:=by
  unfold chU at h
  rcases List.mem_append.1 h with h | h
  · obtain ⟨g,hg,rfl⟩:=List.mem_map.1 h
    exact .inl ⟨rfl,(List.mem_filter.1 hg).1⟩
  · obtain ⟨q,hq,rfl⟩:=List.mem_map.1 h
    exact .inr ⟨q.2,rfl,(List.mem_filter.1 hq).1⟩
def inlE (b:Nat) (m:AM) (κ:Ef→Prop) (v:AV) (m':AM) (b':Nat):Prop:=∃ ren,stOk b (b+15) [] ren m'=true ∧
  inlOk b m [] ren (v.tr (stT b (b+15) [] ren m')) (stM b (b+15) [] ren (stT b (b+15) [] ren m') m')=true ∧
  κ (v.tr (stT b (b+15) [] ren m'),chU m (stM b (b+15) [] ren (stT b (b+15) [] ren m') m'),m.map (·.1))
mutual
/-- What is said of one value is said of another one: empty slices are seen as such. -/
def AV.fit:AV→AV→Bool
  | .slnil,.slv _ []=>true
  | .sle _,.slv _ []=>true
  | .slv _ [],.slv _ []=>true
  | .agg a,.agg b=>fitL a b
  | .tup a,.tup b=>fitL a b
  | x,y=>x.same y
def fitL:List AV→List AV→Bool
  | [],[]=>true
  | x :: l,y :: q=>x.fit y && (!x.one || y.one) && fitL l q
  | _,_=>false
end
theorem Wk.sleT (s t:Nat):Wk (.sle s) (.slv t []):=fun _ _ h=>by cases h with | sle _ a cap hc=>exact .slve t a cap hc
theorem Wk.slv0 (s t:Nat):Wk (.slv s []) (.slv t []):=fun _ _ h=>by
  cases h with
  | slv0=>exact .slv0 t
  | slve _ a cap hc=>exact .slve t a cap hc
  | slvs _ rows a cap us h0=>exact absurd rfl h0
mutual
theorem AV.fit_wk:∀ (x y:AV),x.fit y=true→Wk x y:=fun x y h=>by
  unfold AV.fit at h
  split at h
  · exact Wk.nil _
  · exact Wk.sleT _ _
  · exact Wk.slv0 _ _
  · exact Wk.agg (fitL_wk _ _ h)
  · exact Wk.tup (fitL_wk _ _ h)
  · exact Wk.of_eq (AV.same_eq _ _ h)
theorem fitL_wk:∀ (x y:List AV),fitL x y=true→Wks x y
  | [],y,h=>by cases y <;> simp [fitL] at h; trivial
  | a :: l,y,h=>by
    cases y with
    | nil=>simp [fitL] at h
    | cons b q =>
      simp only [fitL,Bool.and_eq_true,Bool.or_eq_true,Bool.not_eq_true'] at h
      refine ⟨AV.fit_wk a b h.1.1,fun h1=>?_,fitL_wk l q h.2⟩
      rcases h.1.2 with h2 | h2
      · rw [h1] at h2; cases h2
      · exact h2
end
theorem con_wka {P:Program} {f:FuncId} {xs ys:List AV} {e:Ef} (hw:Wks xs ys) (h:Con P f ys e):Con P f xs e:=by
  obtain ⟨h1,h2⟩:=hw.at
  refine ⟨h.1,fun c hc hm hU vs hvs=>h.2 c hc hm hU vs ⟨h1 ▸ hvs.1,fun i y hi=>?_⟩⟩
  obtain ⟨x,q1,q2,_⟩:=h2 i y hi
  exact q2 _ _ (hvs.2 i x q1)

section
variable {P:Program} {κ:Ef→Prop} {m:AM} {b:Nat}
theorem AC.inlE {M:AM} {f:FuncId} {A:AFn} {args:List AV} (hmix:P.follows .mixedOrders=true) (hA:xf P f=some A) (hn:args.length≤A.n) (h1:1≤b) (hM:restM M (reachM M (pickN 1 (nmsL args) []))=m) (hnd:(m.map (·.1)).Nodup) (h0:m.all (fun p=>decide (p.1<b - 1) && p.2.inN (m.map (·.1)))=true)
    (hargs:inNs (m.map (·.1)) args=true) (h:∃ l m' b',inlE b m κ (one1 l) m' b'∧∀ e,FinS b m e (one1 l) m' b'→vc P b A.code (retK A.res (FinS b m e)) (args ++ List.replicate (A.n - args.length) .und) m b):AC P f args M b κ:=by
  obtain ⟨l,m',b',⟨ren,k1,k3,k4⟩,hall⟩:=h
  generalize hv':(one1 l).tr (stT b (b+15) [] ren m')=v' at k3 k4
  generalize hm2:stM b (b+15) [] ren (stT b (b+15) [] ren m') m'=m2 at k3 k4
  simp only [inlOk,Bool.and_eq_true,decide_eq_true_eq,List.all_eq_true] at k3
  obtain ⟨⟨q1,q2⟩,q3⟩:=k3
  have hs:=SubS.step (env:=[one1 l]) (b:=b') k1 (rfl:zPure m' []=true)
  rw [hm2] at hs
  have hmcb:MCb P f args (v',chU m m2,[]) m.get b:=mcb_of_vc hmix hA hn fun _ _=>hall _ ⟨v',m2,b+16,by rw [← hv']; exact hs,Nat.le_refl _,chU_get q1,rfl⟩
  have hlt:∀ n B,m.get n=some B→n<b - 1:=fun n B hB=>by
    have:=List.all_eq_true.1 h0 _ (AM.mem_of_get hB)
    simp only [Bool.and_eq_true,decide_eq_true_eq] at this
    exact this.1
  have hks:∀ n,n∈m.map (·.1)↔(m.get n).isSome=true:=fun n=>⟨fun hm=>by
    obtain ⟨⟨k,B⟩,hk,rfl⟩:=List.mem_map.1 hm
    rw [AM.get_of_mem hnd hk]; rfl,fun hs=>by
    obtain ⟨B,hB⟩:=Option.isSome_iff_exists.1 hs
    exact List.mem_map.2 ⟨(n,B),AM.mem_of_get hB,rfl⟩⟩
  have fixU:∀ g,g∈m2.map (·.1)→upN b b g=g:=by
    intro g hg
    obtain ⟨p,hp,rfl⟩:=List.mem_map.1 hg
    have:=q2 p hp
    simp only [Bool.or_eq_true,decide_eq_true_eq,List.contains_iff_mem] at this
    obtain ⟨⟨r1,r2⟩,_⟩:=this
    unfold upN
    by_cases hb:p.1<b
    · rcases r2 with r2 | r2
      · omega
      · obtain ⟨B,hB⟩:=Option.isSome_iff_exists.1 ((hks _).1 r2)
        have:=hlt _ B hB
        rw [if_pos hb,if_neg (by omega)]
    · rw [if_neg hb,if_pos r1]; omega
  have hT:∀ g,g∈m2.map (·.1)→(upT b b).fixes g:=fun g hg=>⟨fun r o=>by show AV.ptr (upN b b g) r o=_; rw [fixU g hg],fun l=>by show AV.slm (upN b b g) l=_; rw [fixU g hg],by show AV.mapm (upN b b g)=_; rw [fixU g hg]⟩
  have hupsm:(chU m m2).map (upP b b)=chU m m2:=by
    conv=>rhs; rw [← List.map_id (chU m m2)]
    refine List.map_congr_left fun p hp=>?_
    obtain ⟨g,ob⟩:=p
    rcases chU_mem hp with ⟨h1,h2⟩ | ⟨B,h1,h2⟩
    · simp only at h1 h2
      subst h1
      obtain ⟨B,hB⟩:=Option.isSome_iff_exists.1 ((hks _).1 h2)
      have:=hlt _ B hB
      simp only [upP,id_eq,Option.map_none,Prod.mk.injEq,and_true]
      unfold upN
      rw [if_pos (by omega),if_neg (by omega)]
    · simp only at h1 h2
      subst h1
      have:=q2 _ h2
      simp only [upP,id_eq,Option.map_some,fixU g (List.mem_map.2 ⟨_,h2,rfl⟩)]
      rw [Blk.tr_inN hT this.2]
  have:=mcl_lift (kz:=false) (Z:=[]) (args':=args) (m:=M.get) hmcb h1 (Nat.le_refl b) (fun n B hB=>⟨hlt n B hB,restM_get hM (AM.mem_of_get hB)⟩) hks (fun T hT' n B hB=>?_) (fun g hg=>by cases hg) ?_ (fun p hp=>?_) (.inr (.inl rfl))
  · refine ⟨_,this,?_⟩
    rw [AV.tr_inN hT _ q3]
    simp only [kills,List.nil_append,Bool.false_eq_true,if_false,hupsm,List.append_nil]
    exact k4
  · have hB':=List.all_eq_true.1 h0 _ (AM.mem_of_get hB)
    simp only [Bool.and_eq_true] at hB'
    exact Blk.tr_inN (fun g hg=>hT' g ((hks g).1 hg)) hB'.2
  · refine trs_inN (fun g hg=>?_) args hargs
    have hc:(m.map (·.1)).contains g=true:=List.contains_iff_mem.2 hg
    exact ⟨fun r o=>by simp only [vwT,hc]; simp,fun l=>by simp only [vwT,hc]; simp,by simp only [vwT,hc]; simp⟩
  · obtain ⟨g,ob⟩:=p
    rcases chU_mem hp with ⟨h1,h2⟩ | ⟨B,h1,h2⟩
    · simp only at h2 ⊢
      obtain ⟨B,hB⟩:=Option.isSome_iff_exists.1 ((hks _).1 h2)
      have:=hlt _ B hB
      exact ⟨by omega,fun _=>by rw [hB]; rfl⟩
    · simp only at h1 h2 ⊢
      have:=q2 _ h2
      simp only [Bool.or_eq_true,decide_eq_true_eq,List.contains_iff_mem] at this
      refine ⟨this.1.1,fun hb=>?_⟩
      rcases this.1.2 with r | r
      · omega
      · exact (hks _).1 r
end

structure OE where
  f:Nat
  args:List AV
  v:AV
def orc1 (f:Nat) (xs:List AV):List OE→Option AV
  | []=>none
  | o :: l=>match Nat.beq o.f f && fitL xs o.args with
    | true=>some o.v
    | false=>orc1 f xs l
def orcF (L:List OE) (f:Nat) (args:List AV) (m:AM) (b:Nat):Option Ef :=
  match L.any (fun o=>Nat.beq o.f f) with
  | false=>none
  | true=>match orc1 f (trs (vwT m.get [] 1 (pickN 1 (nmsL args) [])) args) L with
    | none=>none
    | some v=>match decide (1≤b) && zPure m (pickN 1 (nmsL args) []) && v.pure with
      | true=>some (v,(pickN 1 (nmsL args) []).map (fun g=>(g,none)),pickN 1 (nmsL args) [])
      | false=>none
def lkF:List (Nat×AFn)→Nat→Option AFn
  | [],_=>none
  | p :: l,f=>match Nat.beq p.1 f with
    | true=>some p.2
    | false=>lkF l f

abbrev EV:=List (Nat×AV)
def EV.get:EV→Nat→AV
  | [],_=>.und
  | p :: l,t=>match Nat.beq p.1 t with
    | true=>p.2
    | false=>EV.get l t
def enumE:Nat→List AV→EV
  | _,[]=>[]
  | i,x :: l=>(i,x) :: enumE (i+1) l
def Opd.evE (E:EV):Opd→AV
  | .tmp t=>E.get t
  | .const x=>x
  | .func f=>.fn (.func f) [] []
def Opd.lit (E:EV) (x:Opd):Opd:=.const (x.evE E)
def AOp.lit (E:EV):AOp→AOp
  | .mv x=>.mv (x.lit E)
  | .pick c a b=>.pick (c.lit E) (a.lit E) (b.lit E)
  | .ext x i=>.ext (x.lit E) i
  | .not x=>.not (x.lit E)
  | .bin op x y=>.bin op (x.lit E) (y.lit E)
  | .eqb n x y=>.eqb n (x.lit E) (y.lit E)
  | .eqs n ks x y=>.eqs n ks (x.lit E) (y.lit E)
  | .eqn n x=>.eqn n (x.lit E)
  | .conv k x=>.conv k (x.lit E)
  | .faddr o x=>.faddr o (x.lit E)
  | .fld o n a x=>.fld o n a (x.lit E)
  | .iaddr s x i=>.iaddr s (x.lit E) (i.lit E)
  | .aaddr l s x i=>.aaddr l s (x.lit E) (i.lit E)
  | .nilchk x=>.nilchk (x.lit E)
  | .build z ps=>.build z (ps.map fun p=>(p.1,p.2.1,p.2.2.lit E))
  | .mkfn f a b=>.mkfn f (a.map (·.lit E)) (b.map (·.lit E))
  | .mkif t x=>.mkif t (x.lit E)
  | .tassert t ok x=>.tassert t ok (x.lit E)
  | .slc s x lo hi=>.slc s (x.lit E) (lo.map (·.lit E)) (hi.map (·.lit E))
  | .len x=>.len (x.lit E)
  | .mn x y=>.mn (x.lit E) (y.lit E)
  | .mx x y=>.mx (x.lit E) (y.lit E)
  | .app t s z x y=>.app t s z (x.lit E) (y.lit E)
  | .cpy s x y=>.cpy s (x.lit E) (y.lit E)
  | .ld n a x=>.ld n a (x.lit E)
  | .st n x y=>.st n (x.lit E) (y.lit E)
  | .lkp z ok x y=>.lkp z ok (x.lit E) (y.lit E)
  | .mupd x y z=>.mupd (x.lit E) (y.lit E) (z.lit E)
  | .mdel x y=>.mdel (x.lit E) (y.lit E)
  | .alloc t z=>.alloc t z
  | .box t x=>.box t (x.lit E)
  | .bslice t s n l=>.bslice t s n (l.map (·.lit E))
  | .mkmap=>.mkmap
  | .mkslice t s z k x y=>.mkslice t s z k (x.lit E) (y.lit E)
  | .call f l=>.call f l
  | .callv f l=>.callv f l
  | .invoke x tb l=>.invoke x tb l
def Rep (n:Nat) (E:EV) (env:List AV):Prop:=env.length=n∧∀ t,E.get t=env.getD t .und
theorem Rep.opd {n:Nat} {E:EV} {env:List AV} (h:Rep n E env) (x:Opd):x.evE E=x.eval env:=by
  cases x with
  | tmp t=>exact h.2 t
  | _=>rfl
theorem Rep.opds {n:Nat} {E:EV} {env:List AV} (h:Rep n E env) (l:List Opd):l.map (·.evE E)=l.map (·.eval env):=List.map_congr_left fun x _=>h.opd x
theorem Rep.lit {n:Nat} {E:EV} {env:List AV} (h:Rep n E env) (x:Opd):(x.lit E).eval []=x.eval env:=h.opd x
theorem Rep.lits {n:Nat} {E:EV} {env:List AV} (h:Rep n E env) (l:List Opd):(l.map (·.lit E)).map (·.eval [])=l.map (·.eval env):=by
  rw [List.map_map]; exact List.map_congr_left fun x _=>h.lit x
theorem Rep.lito {n:Nat} {E:EV} {env:List AV} (h:Rep n E env) (l:Option Opd):(l.map (·.lit E)).map (·.eval [])=l.map (·.eval env):=by
  cases l with
  | none=>rfl
  | some x=>simp [h.lit x]
theorem Rep.aop {n:Nat} {E:EV} {env:List AV} (h:Rep n E env) (m:Nat→Option Blk) (b:Nat) (x:AOp):aop m [] b (x.lit E)=aop m env b x:=by
  cases x <;> simp only [AOp.lit,Sak.aop,h.lit,h.lits,h.lito]
  rename_i z ps
  rw [List.map_map]
  congr 2
  exact List.map_congr_left fun p _=>by simp only [Function.comp,h.lit]
theorem Rep.set {n:Nat} {E:EV} {env:List AV} (h:Rep n E env) {d:Nat} (hd:d<n) (v:AV):Rep n ((d,v) :: E) (env.set d v):=by
  refine ⟨by rw [List.length_set]; exact h.1,fun t=>?_⟩
  simp only [EV.get]
  split
  · rename_i hb
    obtain rfl:=Nat.eq_of_beq_eq_true hb
    rw [List.getD_eq_getElem?_getD,List.getElem?_set_self (by rw [h.1]; exact hd)]
    rfl
  · rename_i hb
    rw [h.2,List.getD_eq_getElem?_getD,List.getD_eq_getElem?_getD,List.getElem?_set_ne (Nat.ne_of_beq_eq_false hb)]
theorem enumE_get:∀ (l:List AV) (i t:Nat),i≤t→(enumE i l).get t=l.getD (t - i) .und
  | [],i,t,h=>by simp [enumE,EV.get]
  | x :: l,i,t,h=>by
    simp only [enumE,EV.get]
    split
    · rename_i hb
      obtain rfl:=Nat.eq_of_beq_eq_true hb
      simp
    · rename_i hb
      have hne:=Nat.ne_of_beq_eq_false hb
      rw [enumE_get l (i+1) t (by omega),show t - i=(t - (i+1))+1 from by omega]
      simp
theorem Rep.enum {n:Nat} {args:List AV} (h:args.length≤n):Rep n (enumE 0 args) (args ++ List.replicate (n - args.length) .und):=by
  refine ⟨by simp; omega,fun t=>?_⟩
  rw [enumE_get args 0 t (Nat.zero_le _),Nat.sub_zero,List.getD_eq_getElem?_getD,List.getD_eq_getElem?_getD]
  by_cases ht:t<args.length
  · rw [List.getElem?_append_left ht]
  · rw [List.getElem?_eq_none (by omega),List.getElem?_append_right (by omega),List.getElem?_replicate]
    split <;> rfl
def res1E (E:EV) (m:Nat→Option Blk):Nat×Option (Nat×Bool)→Option AV
  | (t,none)=>some (E.get t)
  | (a,some (n,agg))=>(doLd m n agg (E.get a)).map (·.v)
def resLE (E:EV) (m:Nat→Option Blk):List (Nat×Option (Nat×Bool))→Option (List AV)
  | []=>some []
  | r :: l=>match res1E E m r,resLE E m l with
    | some x,some xs=>some (x :: xs)
    | _,_=>none
theorem Rep.resL {n:Nat} {E:EV} {env:List AV} (h:Rep n E env) (m:Nat→Option Blk):∀ l,resLE E m l=resL env m l
  | []=>rfl
  | r :: l=>by
    have h1:res1E E m r=res1 env m r:=by
      obtain ⟨a,o⟩:=r
      cases o with
      | none=>simp only [res1E,res1,h.2]
      | some p=>obtain ⟨k,g⟩:=p; simp only [res1E,res1,h.2]
    simp only [resLE,Sak.resL,h1,h.resL m l]
    cases res1 env m r <;> cases Sak.resL env m l <;> rfl

section
variable (call:FuncId→List AV→AM→Nat→Option Ef) (n:Nat)
def evV (x:AV) (as:List AV) (m:AM) (b:Nat):Option Ef:=match x with
  | .fn (.func g) first cap=>call g (first ++ as ++ cap) m b
  | _=>none
def evI (tb:List (Nat×Nat)) (x:AV) (as:List AV) (m:AM) (b:Nat):Option Ef:=match x with
  | .iface t v=>match lkm tb t with
    | some g=>call g (v :: as) m b
    | none=>none
  | _=>none
def evP (op:AOp) (E:EV) (m:AM) (b:Nat):Option Ef :=
  match op with
  | .call f args=>call f (args.map (·.evE E)) m b
  | .callv x args=>evV call (x.evE E) (args.map (·.evE E)) m b
  | .invoke x tb args=>evI call tb (x.evE E) (args.map (·.evE E)) m b
  | x=>(aop m.get [] b (x.lit E)).map fun r=>(r.v,r.ups,r.rd)
def evT1:Bool→AOp→EV→AM→Nat→Option Ef
  | true,op,E,m,b=>evP call op E m b
  | false,_,_,_,_=>some (.tup [],[],[])
def evK:AV→Bool→AOp→EV→AM→Nat→Option Ef
  | .bool t,want,op,E,m,b=>evT1 call (t == want) op E m b
  | .tup [],_,_,_,_,_=>some (.tup [],[],[])
  | _,_,_,_,_,_=>none
def evG:Option (Nat×Bool)→AOp→EV→AM→Nat→Option Ef
  | none,op,E,m,b=>evP call op E m b
  | some (s,want),op,E,m,b=>evK call (E.get s) want op E m b
def putE (E:EV):Option Nat→AV→Option EV
  | none,_=>some E
  | some d,v=>match Nat.blt d n with
    | true=>some ((d,v) :: E)
    | false=>none
def evR:List AO→EV→AM→Nat→Option (EV×AM×Nat)
  | [],E,m,b=>some (E,m,b)
  | o :: rest,E,m,b=>match evG call o.guard o.op E m b with
    | some e=>match putE n E o.dst e.1 with
      | some E'=>evR rest E' (m.upd e.2.1) (b+16)
      | none=>none
    | none=>none
def evT (un:List (Nat×Nat)):List AO→List Ef→EV→AM→Nat→Option (EV×AM×Nat)
  | [],tr,E,m,b=>match dynOk un tr.reverse with
    | true=>some (E,m,b)
    | false=>none
  | o :: rest,tr,E,m,b=>match evG call o.guard o.op E m b with
    | some e=>match putE n E o.dst e.1 with
      | some E'=>evT un rest (e :: tr) E' (m.upd e.2.1) (b+16)
      | none=>none
    | none=>none
abbrev Sta:=Ex×EV×AM×Nat
def nrm:Option (EV×AM×Nat)→Option Sta
  | some r=>some (.normal,r)
  | none=>none
def thenS (f:EV→AM→Nat→Option Sta):Option Sta→Option Sta
  | some (.normal,E,m,b)=>f E m b
  | some (.exit i,r)=>some (.exit i,r)
  | some (.ret,r)=>some (.ret,r)
  | none=>none
def blkS (i:Nat):Option Sta→Option Sta
  | some (.exit j,r)=>match Nat.beq j i with
    | true=>some (.normal,r)
    | false=>some (.exit j,r)
  | some (.normal,r)=>some (.normal,r)
  | some (.ret,r)=>some (.ret,r)
  | none=>none
def loopN (body:EV→AM→Nat→Option Sta) (b0:Nat):Nat→EV→AM→Nat→Option Sta
  | 0,_,_,_=>none
  | k+1,E,m,b=>match Nat.ble b0 b with
    | true=>thenS (loopN body b0 k) (body E m b)
    | false=>none
def evC (b0 k:Nat):ACode→EV→AM→Nat→Option Sta
  | .skip,E,m,b=>some (.normal,E,m,b)
  | .ret,E,m,b=>some (.ret,E,m,b)
  | .exit i,E,m,b=>some (.exit i,E,m,b)
  | .seq x y,E,m,b=>thenS (evC b0 k y) (evC b0 k x E m b)
  | .block i x,E,m,b=>blkS i (evC b0 k x E m b)
  | .cond c x y,E,m,b=>match c.evE E with
    | .bool true=>evC b0 k x E m b
    | .bool false=>evC b0 k y E m b
    | _=>none
  | .loop x,E,m,b=>loopN (evC b0 k x) b0 k E m b
  | .reg ops,E,m,b=>nrm (evR call n ops E m b)
  | .regT ops un,E,m,b=>nrm (evT call n un ops [] E m b)
def growR (b:Nat) (m:AM) (l:List Nat):List Nat:=pickN b (namesM m l) l
def autoX (b:Nat) (v:AV) (m':AM):List (Nat×Nat):=numN b (growR b m' (growR b m' (pickN b (v.nms ++ oldN b m') [])))
def fin2 (b:Nat) (m m':AM) (v:AV) (ren:List (Nat×Nat)):Option Ef :=
  match stOk b (b+15) [] ren m' && inlOk b m [] ren (v.tr (stT b (b+15) [] ren m')) (stM b (b+15) [] ren (stT b (b+15) [] ren m') m') with
  | true=>some (v.tr (stT b (b+15) [] ren m'),chU m (stM b (b+15) [] ren (stT b (b+15) [] ren m') m'),m.map (·.1))
  | false=>none
def resS (b:Nat) (m:AM) (res:List (Nat×Option (Nat×Bool))):Option Sta→Option Ef
  | none=>none
  | some (.exit _,_)=>none
  | some (_,env',m',_)=>match resLE env' m'.get res with
    | some l=>fin2 b m m' (one1 l) (autoX b (one1 l) m')
    | none=>none
def inF (k:Nat) (A:AFn) (args:List AV) (b:Nat) (m:AM):Option Ef :=
  match decide (args.length≤A.n) && decide (1≤b) && decide (m.map (·.1)).Nodup && m.all (fun p=>decide (p.1<b - 1) && p.2.inN (m.map (·.1))) && inNs (m.map (·.1)) args with
  | true=>resS b m A.res (evC call A.n b k A.code (enumE 0 args) m b)
  | false=>none
def inO (k:Nat) (args:List AV) (b:Nat) (M:AM):Option AFn→Option Ef
  | none=>none
  | some A=>inF call k A args b (restM M (reachM M (pickN 1 (nmsL args) [])))
def orE (f:Unit→Option Ef):Option Ef→Option Ef
  | some e=>some e
  | none=>f ()
end
def evF (tab:List (Nat×AFn)) (L:List OE) (k:Nat):Nat→FuncId→List AV→AM→Nat→Option Ef
  | 0,_,_,_,_=>none
  | n+1,f,args,M,b=>orE (fun _=>inO (evF tab L k n) k args b M (lkF tab f)) (orcF L f args M b)
def topS (res:List (Nat×Option (Nat×Bool))):Option Sta→Option AV
  | none=>none
  | some (.exit _,_)=>none
  | some (_,env',m',_)=>match resLE env' m'.get res with
    | some l=>match decide (m'.map (·.1)).Nodup && m'.all (fun p=>decide (1≤p.1)) && (pickN 1 (one1 l).nms []).all (fun g=>decide (1≤g)) && zPure m' (pickN 1 (one1 l).nms []) with
      | true=>some ((one1 l).tr (stT 1 1 (pickN 1 (one1 l).nms []) [] m'))
      | false=>none
    | none=>none
def topA (tab:List (Nat×AFn)) (L:List OE) (k n:Nat) (args:List AV):Option AFn→Option AV
  | none=>none
  | some A=>match decide (args.length≤A.n) with
    | true=>topS A.res (evC (evF tab L k n) A.n 1 k A.code (enumE 0 args) [] 1)
    | false=>none
def topF (tab:List (Nat×AFn)) (L:List OE) (k n:Nat) (f:FuncId) (args:List AV):Option AV:=topA tab L k n args (lkF tab f)

section
variable {P:Program} {call:FuncId→List AV→AM→Nat→Option Ef}
def CallOk (P:Program) (call:FuncId→List AV→AM→Nat→Option Ef):Prop:=∀ f args m b e,call f args m b=some e→∀ κ:Ef→Prop,κ e→AC P f args m b κ
theorem evP_ok (hc:CallOk P call) {n:Nat} {op:AOp} {E:EV} {env:List AV} (hr:Rep n E env) {m:AM} {b:Nat} {e:Ef} (h:evP call op E m b=some e) {κ:Ef→Prop} (hk:κ e):vcP P op κ env m b:=by
  unfold evP at h
  unfold vcP
  split at h
  · rw [hr.opds] at h; exact hc _ _ _ _ _ h _ hk
  · rw [hr.opds,hr.opd] at h
    unfold evV at h
    split at h
    · rename_i heq; simp only [heq,callK]; exact hc _ _ _ _ _ h _ hk
    · cases h
  · rw [hr.opds,hr.opd] at h
    unfold evI at h
    split at h
    · rename_i heq
      split at h
      · rename_i hg; simp only [heq,invK,hg]; exact hc _ _ _ _ _ h _ hk
      · cases h
    · cases h
  · rw [hr.aop] at h
    simp only [Option.map_eq_some_iff] at h
    obtain ⟨r,h1,rfl⟩:=h
    simp only [h1,okK]
    exact hk
theorem evG_ok (hc:CallOk P call) {n:Nat} {g:Option (Nat×Bool)} {op:AOp} {E:EV} {env:List AV} (hr:Rep n E env) {m:AM} {b:Nat} {e:Ef} (h:evG call g op E m b=some e) {κ:Ef→Prop} (hk:κ e):gK P g op κ env m b:=by
  cases g with
  | none=>exact evP_ok hc hr h hk
  | some p =>
    obtain ⟨s,w⟩:=p
    simp only [evG] at h
    simp only [gK]
    rw [hr.2] at h
    generalize env.getD s .und=x at h ⊢
    cases x with
    | bool t =>
      simp only [evK] at h
      simp only [guardK]
      cases htw:(t == w) with
      | true=>rw [htw] at h; exact evP_ok hc hr h hk
      | false=>rw [htw] at h; simp only [evT1,Option.some.injEq] at h; subst h; exact hk
    | tup l =>
      cases l with
      | nil=>simp only [evK,Option.some.injEq] at h; subst h; exact hk
      | cons y l=>simp [evK] at h
    | _=>simp [evK] at h
theorem putE_ok {n:Nat} {E E':EV} {env:List AV} (hr:Rep n E env) {d:Option Nat} {v:AV} (h:putE n E d v=some E'):Rep n E' (putD env d v):=by
  cases d with
  | none=>simp only [putE,Option.some.injEq] at h; subst h; exact hr
  | some d =>
    simp only [putE] at h
    split at h
    · rename_i hd
      simp only [Option.some.injEq] at h; subst h
      exact hr.set (Nat.le_of_ble_eq_true hd) v
    · cases h
theorem evR_ok (hc:CallOk P call) {n:Nat}:∀ {xs:List AO} {E:EV} {env:List AV} {m:AM} {b:Nat} {r:EV×AM×Nat},Rep n E env→evR call n xs E m b=some r→∃ env',Rep n r.1 env'∧∀ k:KE,k env' r.2.1 r.2.2→vcR P xs k env m b
  | [],E,env,m,b,r,hr,h=>by simp only [evR,Option.some.injEq] at h; subst h; exact ⟨env,hr,fun k hk=>hk⟩
  | o :: rest,E,env,m,b,r,hr,h=>by
    simp only [evR] at h
    split at h
    · rename_i e he
      split at h
      · rename_i E' hE
        obtain ⟨env',h1,h2⟩:=evR_ok hc (putE_ok hr hE) h
        exact ⟨env',h1,fun k hk=>evG_ok hc hr he (h2 k hk)⟩
      · cases h
    · cases h
theorem evT_ok (hc:CallOk P call) {n:Nat} {un:List (Nat×Nat)}:∀ {xs:List AO} {tr:List Ef} {E:EV} {env:List AV} {m:AM} {b:Nat} {r:EV×AM×Nat},Rep n E env→evT call n un xs tr E m b=some r→∃ env',Rep n r.1 env'∧∀ k:KE,k env' r.2.1 r.2.2→vcT P un xs k tr env m b
  | [],tr,E,env,m,b,r,hr,h=>by
    simp only [evT] at h
    split at h
    · rename_i hd; simp only [Option.some.injEq] at h; subst h; exact ⟨env,hr,fun k hk=>⟨hd,hk⟩⟩
    · cases h
  | o :: rest,tr,E,env,m,b,r,hr,h=>by
    simp only [evT] at h
    split at h
    · rename_i e he
      split at h
      · rename_i E' hE
        obtain ⟨env',h1,h2⟩:=evT_ok hc (putE_ok hr hE) h
        exact ⟨env',h1,fun k hk=>evG_ok hc hr he (h2 k hk)⟩
      · cases h
    · cases h
theorem evC_ok (hc:CallOk P call) {n b0 k:Nat}:∀ {c:ACode} {E:EV} {env:List AV} {m:AM} {b:Nat} {r:Sta},Rep n E env→evC call n b0 k c E m b=some r→∃ env',Rep n r.2.1 env'∧∀ K:KX,K r.1 env' r.2.2.1 r.2.2.2→vc P b0 c K env m b:=by
  intro c
  induction c with
  | skip=>intro E env m b r hr h; simp only [evC,Option.some.injEq] at h; subst h; exact ⟨env,hr,fun K hk=>hk⟩
  | ret=>intro E env m b r hr h; simp only [evC,Option.some.injEq] at h; subst h; exact ⟨env,hr,fun K hk=>hk⟩
  | exit i=>intro E env m b r hr h; simp only [evC,Option.some.injEq] at h; subst h; exact ⟨env,hr,fun K hk=>hk⟩
  | seq x y ihx ihy =>
    intro E env m b r hr h
    simp only [evC] at h
    simp only [vc]
    cases hx:evC call n b0 k x E m b with
    | none=>rw [hx] at h; cases h
    | some q =>
      rw [hx] at h
      obtain ⟨e,env1,m1,b1⟩:=q
      obtain ⟨env',h1,h2⟩:=ihx hr hx
      cases e with
      | normal =>
        obtain ⟨env2,h3,h4⟩:=ihy h1 h
        exact ⟨env2,h3,fun K hk=>h2 _ (h4 K hk)⟩
      | exit i=>simp only [thenS,Option.some.injEq] at h; subst h; exact ⟨env',h1,fun K hk=>h2 _ hk⟩
      | ret=>simp only [thenS,Option.some.injEq] at h; subst h; exact ⟨env',h1,fun K hk=>h2 _ hk⟩
  | block i x ih =>
    intro E env m b r hr h
    simp only [evC] at h
    simp only [vc]
    cases hx:evC call n b0 k x E m b with
    | none=>rw [hx] at h; cases h
    | some q =>
      rw [hx] at h
      obtain ⟨e,env1,m1,b1⟩:=q
      obtain ⟨env',h1,h2⟩:=ih hr hx
      cases e with
      | normal=>simp only [blkS,Option.some.injEq] at h; subst h; exact ⟨env',h1,fun K hk=>h2 _ hk⟩
      | ret=>simp only [blkS,Option.some.injEq] at h; subst h; exact ⟨env',h1,fun K hk=>h2 _ hk⟩
      | exit j =>
        simp only [blkS] at h
        split at h
        · rename_i hj
          simp only [Option.some.injEq] at h; subst h
          exact ⟨env',h1,fun K hk=>h2 _ (by simp only [inBlk,if_pos (Nat.eq_of_beq_eq_true hj)]; exact hk)⟩
        · rename_i hj
          simp only [Option.some.injEq] at h; subst h
          exact ⟨env',h1,fun K hk=>h2 _ (by simp only [inBlk,if_neg (Nat.ne_of_beq_eq_false hj)]; exact hk)⟩
  | cond q x y ihx ihy =>
    intro E env m b r hr h
    simp only [evC] at h
    simp only [vc]
    rw [hr.opd] at h
    split at h
    · rename_i hq; simp only [hq,condK,caseT]; exact ihx hr h
    · rename_i hq; simp only [hq,condK,caseT]; exact ihy hr h
    · cases h
  | loop x ih =>
    intro E env m b r hr h
    simp only [evC] at h
    simp only [vc]
    have main : ∀ j E env m b,Rep n E env→loopN (evC call n b0 k x) b0 j E m b=some r→b0≤b∧∃ env',Rep n r.2.1 env'∧∀ K:KX,K r.1 env' r.2.2.1 r.2.2.2→UnR P b0 x K j env m b:=by
      intro j
      induction j with
      | zero=>intro E env m b _ h; cases h
      | succ j ihn =>
        intro E env m b hr h
        simp only [loopN] at h
        split at h
        · rename_i hb
          refine ⟨Nat.le_of_ble_eq_true hb,?_⟩
          cases hx:evC call n b0 k x E m b with
          | none=>rw [hx] at h; cases h
          | some q =>
            rw [hx] at h
            obtain ⟨e,env1,m1,b1⟩:=q
            obtain ⟨env',h1,h2⟩:=ih hr hx
            cases e with
            | normal =>
              obtain ⟨h3,env2,h4,h5⟩:=ihn _ _ _ _ h1 h
              exact ⟨env2,h4,fun K hk=>h2 _ ⟨h3,h5 K hk⟩⟩
            | exit i=>simp only [thenS,Option.some.injEq] at h; subst h; exact ⟨env',h1,fun K hk=>h2 _ hk⟩
            | ret=>simp only [thenS,Option.some.injEq] at h; subst h; exact ⟨env',h1,fun K hk=>h2 _ hk⟩
        · cases h
    obtain ⟨h1,env',h2,h3⟩:=main _ _ _ _ _ hr h
    exact ⟨env',h2,fun K hk=>lp_unroll k h1 (h3 K hk)⟩
  | reg ops =>
    intro E env m b r hr h
    simp only [evC] at h
    cases hx:evR call n ops E m b with
    | none=>rw [hx] at h; cases h
    | some q =>
      rw [hx] at h; simp only [nrm,Option.some.injEq] at h; subst h
      obtain ⟨env',h1,h2⟩:=evR_ok hc hr hx
      exact ⟨env',h1,fun K hk=>h2 _ hk⟩
  | regT ops un =>
    intro E env m b r hr h
    simp only [evC] at h
    cases hx:evT call n un ops [] E m b with
    | none=>rw [hx] at h; cases h
    | some q =>
      rw [hx] at h; simp only [nrm,Option.some.injEq] at h; subst h
      obtain ⟨env',h1,h2⟩:=evT_ok hc hr hx
      exact ⟨env',h1,fun K hk=>h2 _ hk⟩
theorem inF_ok (hmix:P.follows .mixedOrders=true) (hc:CallOk P call) {k:Nat} {f:FuncId} {A:AFn} (hA:xf P f=some A) {args:List AV} {b:Nat} {M:AM} {e:Ef} (h:inF call k A args b (restM M (reachM M (pickN 1 (nmsL args) [])))=some e) {κ:Ef→Prop} (hk:κ e):AC P f args M b κ:=by
  generalize hm:restM M (reachM M (pickN 1 (nmsL args) []))=m at h
  unfold inF at h
  split at h
  · rename_i hq
    simp only [Bool.and_eq_true,decide_eq_true_eq] at hq
    obtain ⟨⟨⟨⟨q1,q2⟩,q3⟩,q4⟩,q5⟩:=hq
    cases hx:evC call A.n b k A.code (enumE 0 args) m b with
    | none=>rw [hx] at h; cases h
    | some r =>
      rw [hx] at h
      obtain ⟨x,E',m',b'⟩:=r
      obtain ⟨env',hr',hv⟩:=evC_ok hc (Rep.enum q1) hx
      simp only at hr' hv
      rw [show resS b m A.res (some (x,E',m',b'))=(match x with | .exit _=>none | _=>match resL env' m'.get A.res with | some l=>fin2 b m m' (one1 l) (autoX b (one1 l) m') | none=>none) from by cases x <;> simp only [resS,hr'.resL]] at h
      have main:(match resL env' m'.get A.res with | some l=>fin2 b m m' (one1 l) (autoX b (one1 l) m') | none=>none)=some e→(∀ fin l,resL env' m'.get A.res=some l→fin (one1 l) m' b'→retK A.res fin x env' m' b')→AC P f args M b κ:=by
        intro h hr
        split at h
        · rename_i l hl
          unfold fin2 at h
          split at h
          · rename_i hs
            simp only [Option.some.injEq] at h
            rw [Bool.and_eq_true] at hs
            exact AC.inlE hmix hA q1 q2 hm q3 q4 q5 ⟨l,m',b',⟨autoX b (one1 l) m',hs.1,hs.2,by rw [h]; exact hk⟩,fun e' he=>hv _ (hr _ l hl he)⟩
          · cases h
        · cases h
      cases x with
      | exit i=>cases h
      | normal=>exact main h fun fin l hl hf=>by simp only [retK,hl,resK]; exact hf
      | ret=>exact main h fun fin l hl hf=>by simp only [retK,hl,resK]; exact hf
  · cases h
def TabOk (P:Program) (tab:List (Nat×AFn)):Prop:=∀ p,p∈tab→xf P p.1=some p.2
def OrcOk (P:Program) (L:List OE):Prop:=∀ o,o∈L→Con P o.f o.args (o.v,[],[])
theorem lkF_ok {tab:List (Nat×AFn)} (ht:TabOk P tab):∀ {f:Nat} {A:AFn},lkF tab f=some A→xf P f=some A:=by
  induction tab with
  | nil=>intro f A h; cases h
  | cons p l ih =>
    intro f A h
    simp only [lkF] at h
    split at h
    · rename_i hb
      simp only [Option.some.injEq] at h
      rw [← h,← Nat.eq_of_beq_eq_true hb]
      exact ht p (List.mem_cons_self ..)
    · exact ih (fun q hq=>ht q (List.mem_cons_of_mem _ hq)) h
theorem orc1_ok {L:List OE} (hL:OrcOk P L) {f:Nat} {xs:List AV}:∀ {v:AV},orc1 f xs L=some v→Con P f xs (v,[],[]):=by
  induction L with
  | nil=>intro v h; cases h
  | cons o l ih =>
    intro v h
    simp only [orc1] at h
    split at h
    · rename_i hb
      rw [Bool.and_eq_true] at hb
      simp only [Option.some.injEq] at h
      rw [← h,← Nat.eq_of_beq_eq_true hb.1]
      exact con_wka (fitL_wk _ _ hb.2) (hL o (List.mem_cons_self ..))
    · exact ih (fun q hq=>hL q (List.mem_cons_of_mem _ hq)) h
theorem orcF_ok {L:List OE} (hL:OrcOk P L):CallOk P (orcF L):=by
  intro f args m b e h κ hk
  unfold orcF at h
  split at h
  · cases h
  · split at h
    · cases h
    · rename_i v hv
      split at h
      · rename_i hq
        simp only [Bool.and_eq_true,decide_eq_true_eq] at hq
        simp only [Option.some.injEq] at h
        rw [← h] at hk
        exact AC.pk _ (orc1_ok hL hv) rfl hq.1.1 hq.1.2 hq.2 hk
      · cases h
theorem evF_ok (hmix:P.follows .mixedOrders=true) {tab:List (Nat×AFn)} {L:List OE} (ht:TabOk P tab) (hL:OrcOk P L) {k:Nat}:∀ n,CallOk P (evF tab L k n)
  | 0=>fun f args m b e h=>by cases h
  | n + 1=>fun f args m b e h κ hk=>by
    simp only [evF] at h
    cases ho:orcF L f args m b with
    | some e' =>
      rw [ho] at h
      simp only [orE,Option.some.injEq] at h
      subst h
      exact orcF_ok hL _ _ _ _ _ ho _ hk
    | none =>
      rw [ho] at h
      simp only [orE] at h
      cases hA:lkF tab f with
      | none=>rw [hA] at h; cases h
      | some A=>rw [hA] at h; exact inF_ok hmix (evF_ok hmix ht hL n) (lkF_ok ht hA) h hk
theorem con_ev (hmix:P.follows .mixedOrders=true) {tab:List (Nat×AFn)} {L:List OE} (ht:TabOk P tab) (hL:OrcOk P L) {k n:Nat} {f:FuncId} {args:List AV} {v:AV} (h:topF tab L k n f args=some v):Con P f args (v,[],[]):=by
  unfold topF at h
  cases hA:lkF tab f with
  | none=>rw [hA] at h; cases h
  | some A =>
    rw [hA] at h
    unfold topA at h
    simp only [] at h
    split at h
    · rename_i hl
      refine mcb_of_vc hmix (lkF_ok ht hA) (of_decide_eq_true hl) fun _ _=>?_
      cases hx:evC (evF tab L k n) A.n 1 k A.code (enumE 0 args) [] 1 with
      | none=>rw [hx] at h; cases h
      | some r =>
        rw [hx] at h
        obtain ⟨x,E',m',b'⟩:=r
        obtain ⟨env',hr',hv⟩:=evC_ok (evF_ok hmix ht hL n) (Rep.enum (of_decide_eq_true hl)) hx
        simp only at hr' hv
        refine hv _ ?_
        rw [show topS A.res (some (x,E',m',b'))=(match x with | .exit _=>none | _=>match resL env' m'.get A.res with
            | some l=>match decide (m'.map (·.1)).Nodup && m'.all (fun p=>decide (1≤p.1)) && (pickN 1 (one1 l).nms []).all (fun g=>decide (1≤g)) && zPure m' (pickN 1 (one1 l).nms []) with
              | true=>some ((one1 l).tr (stT 1 1 (pickN 1 (one1 l).nms []) [] m'))
              | false=>none
            | none=>none) from by cases x <;> simp only [topS,hr'.resL]] at h
        have main:(match resL env' m'.get A.res with
            | some l=>match decide (m'.map (·.1)).Nodup && m'.all (fun p=>decide (1≤p.1)) && (pickN 1 (one1 l).nms []).all (fun g=>decide (1≤g)) && zPure m' (pickN 1 (one1 l).nms []) with
              | true=>some ((one1 l).tr (stT 1 1 (pickN 1 (one1 l).nms []) [] m'))
              | false=>none
            | none=>none)=some v→(∀ fin l,resL env' m'.get A.res=some l→fin (one1 l) m' b'→retK A.res fin x env' m' b')→retK A.res (FinS 1 [] (v,[],[])) x env' m' b':=by
          intro h hr
          split at h
          · rename_i l hl
            split at h
            · rename_i hs
              simp only [Bool.and_eq_true,decide_eq_true_eq] at hs
              simp only [Option.some.injEq] at h
              exact hr _ l hl (fin_nms rfl hs.1.1.1 hs.1.1.2 hs.1.2 hs.2 rfl (Wk.of_eq h))
            · cases h
          · cases h
        cases x with
        | exit i=>cases h
        | normal=>exact main h fun fin l hl hf=>by simp only [retK,hl,resK]; exact hf
        | ret=>exact main h fun fin l hl hf=>by simp only [retK,hl,resK]; exact hf
    · cases h
end
end Go.Sak
