/- Part U100 of the proofs about the program: Zd, Ev. Conditions: none. -/
import Derived.Test.YtahdilehajdhgaaGreatU03
open Go.Sak.AM renaming get→BY,mem_of_get→AX
open Bool renaming and_eq_true→Zq,not_eq_true'→CD,or_eq_true→AZ
open List renaming all_eq_true→AA,contains_iff_mem→AH,filter_cons→FS,getD_eq_getElem?_getD→Zr,map_congr_left→BP,map_map→FO,mem_cons_of_mem→AR,mem_cons_self→BH,mem_filter→CN,mem_map→AG
open Nat renaming beq→GC,eq_of_beq_eq_true→CJ,le_of_ble_eq_true→CW,le_refl→AP,ne_of_beq_eq_false→DH
open Option renaming isSome_iff_exists→Zx
open Option.some renaming injEq→Zn
namespace Go.Sak
open Go Go.RowKit
set_option linter.unusedVariables false
set_option linter.unusedSimpArgs false
section
variable {P:Program} {κ:Ef→Prop} {m:AM} {b:Nat}
end

mutual
/-- Two values are one (values without names). -/
def AV.same:AV→AV→Bool
  | .int k a,.int k' b=>decide (k=k') && decide (a=b)
  | .bool a,.bool b=>a == b
  | .nilp,.nilp=>true
  | .slnil,.slnil=>true
  | .mapnil,.mapnil=>true
  | .fnnil,.fnnil=>true
  | .ifnil,.ifnil=>true
  | .sle s,.sle t=>decide (s=t)
  | .slv s r,.slv t q=>decide (s=t) && jJ r q
  | .agg a,.agg b=>hH a b
  | .tup a,.tup b=>hH a b
  | .ptr g r o,.ptr g' r' o'=>decide (g=g') && decide (r=r') && decide (o=o')
  | .slm g l,.slm g' l'=>decide (g=g') && decide (l=l')
  | .mapm g,.mapm g'=>decide (g=g')
  | .pv a,.pv b=>hH a b
  | .fn f a c,.fn f' a' c'=>decide (f=f') && hH a a' && hH c c'
  | .iface t x,.iface t' y=>decide (t=t') && x.same y
  | _,_=>false
def hH:List AV→List AV→Bool
  | [],[]=>true
  | x :: l,y :: q=>x.same y && hH l q
  | _,_=>false
def jJ:List (List AV)→List (List AV)→Bool
  | [],[]=>true
  | x :: l,y :: q=>hH x y && jJ l q
  | _,_=>false
end
mutual
theorem AV.same_eq:∀ (x y:AV),x.same y=true→x=y
  | .int k a,y,h=>by cases y <;> simp [AV.same] at h; rw [h.1,h.2]
  | .bool a,y,h=>by cases y <;> simp [AV.same] at h; rw [h]
  | .nilp,y,h=>by cases y <;> simp [AV.same] at h; rfl
  | .slnil,y,h=>by cases y <;> simp [AV.same] at h; rfl
  | .mapnil,y,h=>by cases y <;> simp [AV.same] at h; rfl
  | .fnnil,y,h=>by cases y <;> simp [AV.same] at h; rfl
  | .ifnil,y,h=>by cases y <;> simp [AV.same] at h; rfl
  | .sle s,y,h=>by cases y <;> simp [AV.same] at h; rw [h]
  | .slv s r,y,h=>by cases y <;> simp [AV.same] at h; rw [h.1,kS _ _ h.2]
  | .agg a,y,h=>by cases y <;> simp [AV.same] at h; rw [eY _ _ h]
  | .tup a,y,h=>by cases y <;> simp [AV.same] at h; rw [eY _ _ h]
  | .str _,y,h=>by cases y <;> simp [AV.same] at h
  | .ptr _ _ _,y,h=>by cases y <;> simp [AV.same] at h; rw [h.1.1,h.1.2,h.2]
  | .pv a,y,h=>by cases y <;> simp [AV.same] at h; rw [eY _ _ h]
  | .slm _ _,y,h=>by cases y <;> simp [AV.same] at h; rw [h.1,h.2]
  | .mapm _,y,h=>by cases y <;> simp [AV.same] at h; rw [h]
  | .fn _ a c,y,h=>by cases y <;> simp [AV.same] at h; rw [h.1.1,eY _ _ h.1.2,eY _ _ h.2]
  | .iface _ x,y,h=>by cases y <;> simp [AV.same] at h; rw [h.1,AV.same_eq _ _ h.2]
  | .und,y,h=>by cases y <;> simp [AV.same] at h
theorem eY:∀ (x y:List AV),hH x y=true→x=y
  | [],y,h=>by cases y <;> simp [hH] at h; rfl
  | a :: l,y,h=>by
    cases y with
    | nil=>simp [hH] at h
    | cons b q=>simp only [hH,Zq] at h; rw [AV.same_eq a b h.1,eY l q h.2]
theorem kS:∀ (x y:List (List AV)),jJ x y=true→x=y
  | [],y,h=>by cases y <;> simp [jJ] at h; rfl
  | a :: l,y,h=>by
    cases y with
    | nil=>simp [jJ] at h
    | cons b q=>simp only [jJ,Zq] at h; rw [eY a b h.1,kS l q h.2]
end
def nQ:List (AV×AV)→List (AV×AV)→Bool
  | [],[]=>true
  | x :: l,y :: q=>x.1.same y.1 && x.2.same y.2 && nQ l q
  | _,_=>false
theorem qF:∀ (x y:List (AV×AV)),nQ x y=true→x=y
  | [],y,h=>by cases y <;> simp [nQ] at h; rfl
  | a :: l,y,h=>by
    cases y with
    | nil=>simp [nQ] at h
    | cons b q =>
      simp only [nQ,Zq] at h
      rw [qF l q h.2,show a=b from Prod.ext (AV.same_eq _ _ h.1.1) (AV.same_eq _ _ h.1.2)]
def Blk.same:Blk→Blk→Bool
  | .rows t s r,.rows t' s' r'=>decide (t=t') && decide (s=s') && jJ r r'
  | .mp e,.mp e'=>nQ e e'
  | _,_=>false
theorem Blk.same_eq (x y:Blk) (h:x.same y=true):x=y:=by
  cases x <;> cases y <;> simp [Blk.same] at h
  · rw [h.1.1,h.1.2,kS _ _ h.2]
  · rw [qF _ _ h]
def Lg (m:AM) (p:Nat×Blk):Bool:=match m.get p.1 with
  | some B=>!(B.same p.2)
  | none=>true
def xV (m m2:AM):List (Nat×Option Blk):=((m.map (·.1)).filter fun g=>!(m2.map (·.1)).contains g).map (fun g=>(g,none)) ++ (m2.filter (Lg m)).map fun p=>(p.1,some p.2)
theorem mE {q:Nat×Blk→Bool}:∀ {m:AM} {n:Nat},(m.map (·.1)).Nodup→BY (m.filter q) n=(match m.get n with | some B=>if q (n,B) then some B else none | none=>none)
  | [],n,_=>rfl
  | (k,B) :: l,n,h=>by
    simp only [List.map_cons,List.nodup_cons] at h
    have ih:=mE (q:=q) (n:=n) h.2
    by_cases hn:n=k
    · subst hn
      have h0:BY l n=none:=lC h.1
      rw [h0] at ih
      simp only [FS,BY,if_pos]
      by_cases hq:q (n,B)=true
      · rw [if_pos hq,if_pos hq]; simp [BY]
      · rw [if_neg hq,if_neg hq]; exact ih
    · simp only [FS,BY,if_neg hn]
      split
      · simp only [BY,if_neg hn]; exact ih
      · exact ih
theorem zO {m m2:AM} (h:(m2.map (·.1)).Nodup):m2.get=(m.upd (xV m m2)).get:=by
  rw [AM.get_upd]
  funext n
  unfold xV
  have h2:((m2.filter (Lg m)).map (·.1)).Nodup:=h.sublist (List.filter_sublist.map _)
  rw [fC,mQ h2,mE h,jZ]
  have hks : ∀ (M:AM),n∈M.map (·.1)↔(M.get n).isSome=true:=fun M=>⟨fun hm=>by
    cases hg:M.get n with
    | some B=>rfl
    | none =>
      exfalso
      have : ∀ (M:AM),n∈M.map (·.1)→M.get n=none→False:=by
        intro M
        induction M with
        | nil=>intro h; cases h
        | cons p l ih =>
          obtain ⟨k,B⟩:=p
          intro h1 h2
          simp only [BY] at h2
          split at h2
          · cases h2
          · rename_i hk
            rcases List.mem_cons.1 h1 with h1 | h1
            · exact hk h1
            · exact ih h1 h2
      exact this M hm hg,fun hs=>by
    obtain ⟨B,hB⟩:=Zx.1 hs
    exact AG.2 ⟨(n,B),AX hB,rfl⟩⟩
  cases hg:m2.get n with
  | none =>
    simp only []
    split
    · rfl
    · rename_i hn
      cases hm:m.get n with
      | none=>rfl
      | some B =>
        exfalso
        refine hn (CN.2 ⟨(hks m).2 (by rw [hm]; rfl),?_⟩)
        have:¬ n∈m2.map (·.1):=fun hh=>by have:=(hks m2).1 hh; rw [hg] at this; cases this
        simpa using this
  | some B =>
    simp only []
    by_cases hc:Lg m (n,B)=true
    · rw [if_pos hc]
    · rw [if_neg hc]
      simp only []
      have hin:n∈m2.map (·.1):=(hks m2).2 (by rw [hg]; rfl)
      rw [if_neg (fun hh=>by
        have:=(CN.1 hh).2
        rw [AH.2 hin] at this; cases this)]
      unfold Lg at hc
      simp only [] at hc
      split at hc
      · rename_i B' hB'
        rw [hB']
        simp only [CD,Bool.not_eq_false] at hc
        rw [Blk.same_eq _ _ hc]
      · exact absurd rfl hc
theorem sC {m m2:AM} {p:Nat×Option Blk} (h:p∈xV m m2):(p.2=none∧p.1∈m.map (·.1))∨∃ B,p.2=some B∧(p.1,B)∈m2:=by
  unfold xV at h
  rcases List.mem_append.1 h with h | h
  · obtain ⟨g,hg,rfl⟩:=AG.1 h
    exact .inl ⟨rfl,(CN.1 hg).1⟩
  · obtain ⟨q,hq,rfl⟩:=AG.1 h
    exact .inr ⟨q.2,rfl,(CN.1 hq).1⟩
def inlE (b:Nat) (m:AM) (κ:Ef→Prop) (v:AV) (m':AM) (b':Nat):Prop:=∃ ren,stOk b (b+15) [] ren m'=true ∧
  inlOk b m [] ren (v.tr (stT b (b+15) [] ren m')) (stM b (b+15) [] ren (stT b (b+15) [] ren m') m')=true ∧
  κ (v.tr (stT b (b+15) [] ren m'),xV m (stM b (b+15) [] ren (stT b (b+15) [] ren m') m'),m.map (·.1))
mutual
/-- What is said of one value is said of another one: empty slices are seen as such. -/
def AV.fit:AV→AV→Bool
  | .slnil,.slv _ []=>true
  | .sle _,.slv _ []=>true
  | .slv _ [],.slv _ []=>true
  | .agg a,.agg b=>oF a b
  | .tup a,.tup b=>oF a b
  | x,y=>x.same y
def oF:List AV→List AV→Bool
  | [],[]=>true
  | x :: l,y :: q=>x.fit y && (!x.one || y.one) && oF l q
  | _,_=>false
end
theorem Wk.sleT (s t:Nat):Wk (.sle s) (.slv t []):=fun _ _ h=>by cases h with | sle _ a cap hc=>exact .slve t a cap hc
theorem Wk.slv0 (s t:Nat):Wk (.slv s []) (.slv t []):=fun _ _ h=>by
  cases h with
  | slv0=>exact .slv0 t
  | slve _ a cap hc=>exact .slve t a cap hc
  | slvs _ rows a cap us h0=>exact absurd rfl h0
mutual
theorem AV.fit_wk:∀ (x y:AV),x.fit y=true→Wk x y:=fun x y h=>by
  unfold AV.fit at h
  split at h
  · exact Wk.nil _
  · exact Wk.sleT _ _
  · exact Wk.slv0 _ _
  · exact Wk.agg (jW _ _ h)
  · exact Wk.tup (jW _ _ h)
  · exact Wk.of_eq (AV.same_eq _ _ h)
theorem jW:∀ (x y:List AV),oF x y=true→Wks x y
  | [],y,h=>by cases y <;> simp [oF] at h; trivial
  | a :: l,y,h=>by
    cases y with
    | nil=>simp [oF] at h
    | cons b q =>
      simp only [oF,Zq,AZ,CD] at h
      refine ⟨AV.fit_wk a b h.1.1,fun h1=>?_,jW l q h.2⟩
      rcases h.1.2 with h2 | h2
      · rw [h1] at h2; cases h2
      · exact h2
end
theorem sD {P:Program} {f:FuncId} {xs ys:List AV} {e:Ef} (hw:Wks xs ys) (h:bO P f ys e):bO P f xs e:=by
  obtain ⟨h1,h2⟩:=hw.at
  refine ⟨h.1,fun c hc hm hU vs hvs=>h.2 c hc hm hU vs ⟨h1 ▸ hvs.1,fun i y hi=>?_⟩⟩
  obtain ⟨x,q1,q2,_⟩:=h2 i y hi
  exact q2 _ _ (hvs.2 i x q1)

section
variable {P:Program} {κ:Ef→Prop} {m:AM} {b:Nat}
theorem AC.inlE {M:AM} {f:FuncId} {A:AFn} {args:List AV} (hmix:P.follows .mixedOrders=true) (hA:xf P f=some A) (hn:args.length≤A.n) (h1:1≤b) (hM:eN M (reachM M (bS 1 (eM args) []))=m) (hnd:(m.map (·.1)).Nodup) (h0:m.all (fun p=>decide (p.1<b - 1) && p.2.inN (m.map (·.1)))=true)
    (hargs:eV (m.map (·.1)) args=true) (h:∃ l m' b',inlE b m κ (cI l) m' b'∧∀ e,gB b m e (cI l) m' b'→vc P b A.code (dH A.res (gB b m e)) (args ++ List.replicate (A.n - args.length) .und) m b):AC P f args M b κ:=by
  obtain ⟨l,m',b',⟨ren,k1,k3,k4⟩,hall⟩:=h
  generalize hv':(cI l).tr (stT b (b+15) [] ren m')=v' at k3 k4
  generalize hm2:stM b (b+15) [] ren (stT b (b+15) [] ren m') m'=m2 at k3 k4
  simp only [inlOk,Zq,decide_eq_true_eq,AA] at k3
  obtain ⟨⟨q1,q2⟩,q3⟩:=k3
  have hs:=SubS.step (env:=[cI l]) (b:=b') k1 (rfl:cC m' []=true)
  rw [hm2] at hs
  have hmcb:yP P f args (v',xV m m2,[]) m.get b:=aG hmix hA hn fun _ _=>hall _ ⟨v',m2,b+16,by rw [← hv']; exact hs,AP _,zO q1,rfl⟩
  have hlt:∀ n B,m.get n=some B→n<b - 1:=fun n B hB=>by
    have:=AA.1 h0 _ (AX hB)
    simp only [Zq,decide_eq_true_eq] at this
    exact this.1
  have hks:∀ n,n∈m.map (·.1)↔(m.get n).isSome=true:=fun n=>⟨fun hm=>by
    obtain ⟨⟨k,B⟩,hk,rfl⟩:=AG.1 hm
    rw [AM.get_of_mem hnd hk]; rfl,fun hs=>by
    obtain ⟨B,hB⟩:=Zx.1 hs
    exact AG.2 ⟨(n,B),AX hB,rfl⟩⟩
  have fixU:∀ g,g∈m2.map (·.1)→eD b b g=g:=by
    intro g hg
    obtain ⟨p,hp,rfl⟩:=AG.1 hg
    have:=q2 p hp
    simp only [AZ,decide_eq_true_eq,AH] at this
    obtain ⟨⟨r1,r2⟩,_⟩:=this
    unfold eD
    by_cases hb:p.1<b
    · rcases r2 with r2 | r2
      · omega
      · obtain ⟨B,hB⟩:=Zx.1 ((hks _).1 r2)
        have:=hlt _ B hB
        rw [if_pos hb,if_neg (by omega)]
    · rw [if_neg hb,if_pos r1]; omega
  have hT:∀ g,g∈m2.map (·.1)→(mP b b).fixes g:=fun g hg=>⟨fun r o=>by show AV.ptr (eD b b g) r o=_; rw [fixU g hg],fun l=>by show AV.slm (eD b b g) l=_; rw [fixU g hg],by show AV.mapm (eD b b g)=_; rw [fixU g hg]⟩
  have hupsm:(xV m m2).map (oS b b)=xV m m2:=by
    conv=>rhs; rw [← List.map_id (xV m m2)]
    refine BP fun p hp=>?_
    obtain ⟨g,ob⟩:=p
    rcases sC hp with ⟨h1,h2⟩ | ⟨B,h1,h2⟩
    · simp only at h1 h2
      subst h1
      obtain ⟨B,hB⟩:=Zx.1 ((hks _).1 h2)
      have:=hlt _ B hB
      simp only [oS,id_eq,Option.map_none,Prod.mk.injEq,and_true]
      unfold eD
      rw [if_pos (by omega),if_neg (by omega)]
    · simp only at h1 h2
      subst h1
      have:=q2 _ h2
      simp only [oS,id_eq,Option.map_some,fixU g (AG.2 ⟨_,h2,rfl⟩)]
      rw [Blk.tr_inN hT this.2]
  have:=fT (kz:=false) (Z:=[]) (args':=args) (m:=M.get) hmcb h1 (AP b) (fun n B hB=>⟨hlt n B hB,nN hM (AX hB)⟩) hks (fun T hT' n B hB=>?_) (fun g hg=>by cases hg) ?_ (fun p hp=>?_) (.inr (.inl rfl))
  · refine ⟨_,this,?_⟩
    rw [AV.tr_inN hT _ q3]
    simp only [eW,List.nil_append,Bool.false_eq_true,if_false,hupsm,List.append_nil]
    exact k4
  · have hB':=AA.1 h0 _ (AX hB)
    simp only [Zq] at hB'
    exact Blk.tr_inN (fun g hg=>hT' g ((hks g).1 hg)) hB'.2
  · refine dW (fun g hg=>?_) args hargs
    have hc:(m.map (·.1)).contains g=true:=AH.2 hg
    exact ⟨fun r o=>by simp only [kB,hc]; simp,fun l=>by simp only [kB,hc]; simp,by simp only [kB,hc]; simp⟩
  · obtain ⟨g,ob⟩:=p
    rcases sC hp with ⟨h1,h2⟩ | ⟨B,h1,h2⟩
    · simp only at h2 ⊢
      obtain ⟨B,hB⟩:=Zx.1 ((hks _).1 h2)
      have:=hlt _ B hB
      exact ⟨by omega,fun _=>by rw [hB]; rfl⟩
    · simp only at h1 h2 ⊢
      have:=q2 _ h2
      simp only [AZ,decide_eq_true_eq,AH] at this
      refine ⟨this.1.1,fun hb=>?_⟩
      rcases this.1.2 with r | r
      · omega
      · exact (hks _).1 r
end

structure OE where
  f:Nat
  args:List AV
  v:AV
def Ak (f:Nat) (xs:List AV):List OE→Option AV
  | []=>none
  | o :: l=>match GC o.f f && oF xs o.args with
    | true=>some o.v
    | false=>Ak f xs l
def Am (L:List OE) (f:Nat) (args:List AV) (m:AM) (b:Nat):Option Ef :=
  match L.any (fun o=>GC o.f f) with
  | false=>none
  | true=>match Ak f (trs (kB m.get [] 1 (bS 1 (eM args) [])) args) L with
    | none=>none
    | some v=>match decide (1≤b) && cC m (bS 1 (eM args) []) && v.pure with
      | true=>some (v,(bS 1 (eM args) []).map (fun g=>(g,none)),bS 1 (eM args) [])
      | false=>none
def Cg:List (Nat×AFn)→Nat→Option AFn
  | [],_=>none
  | p :: l,f=>match GC p.1 f with
    | true=>some p.2
    | false=>Cg l f

abbrev EV:=List (Nat×AV)
def EV.get:EV→Nat→AV
  | [],_=>.und
  | p :: l,t=>match GC p.1 t with
    | true=>p.2
    | false=>EV.get l t
def jV:Nat→List AV→EV
  | _,[]=>[]
  | i,x :: l=>(i,x) :: jV (i+1) l
def Opd.evE (E:EV):Opd→AV
  | .tmp t=>E.get t
  | .const x=>x
  | .func f=>.fn (.func f) [] []
def Opd.lit (E:EV) (x:Opd):Opd:=.const (x.evE E)
def AOp.lit (E:EV):AOp→AOp
  | .mv x=>.mv (x.lit E)
  | .pick c a b=>.pick (c.lit E) (a.lit E) (b.lit E)
  | .ext x i=>.ext (x.lit E) i
  | .not x=>.not (x.lit E)
  | .bin op x y=>.bin op (x.lit E) (y.lit E)
  | .eqb n x y=>.eqb n (x.lit E) (y.lit E)
  | .eqs n ks x y=>.eqs n ks (x.lit E) (y.lit E)
  | .eqn n x=>.eqn n (x.lit E)
  | .conv k x=>.conv k (x.lit E)
  | .faddr o x=>.faddr o (x.lit E)
  | .fld o n a x=>.fld o n a (x.lit E)
  | .iaddr s x i=>.iaddr s (x.lit E) (i.lit E)
  | .aaddr l s x i=>.aaddr l s (x.lit E) (i.lit E)
  | .nilchk x=>.nilchk (x.lit E)
  | .build z ps=>.build z (ps.map fun p=>(p.1,p.2.1,p.2.2.lit E))
  | .mkfn f a b=>.mkfn f (a.map (·.lit E)) (b.map (·.lit E))
  | .mkif t x=>.mkif t (x.lit E)
  | .tassert t ok x=>.tassert t ok (x.lit E)
  | .slc s x lo hi=>.slc s (x.lit E) (lo.map (·.lit E)) (hi.map (·.lit E))
  | .len x=>.len (x.lit E)
  | .mn x y=>.mn (x.lit E) (y.lit E)
  | .mx x y=>.mx (x.lit E) (y.lit E)
  | .app t s z x y=>.app t s z (x.lit E) (y.lit E)
  | .cpy s x y=>.cpy s (x.lit E) (y.lit E)
  | .ld n a x=>.ld n a (x.lit E)
  | .st n x y=>.st n (x.lit E) (y.lit E)
  | .lkp z ok x y=>.lkp z ok (x.lit E) (y.lit E)
  | .mupd x y z=>.mupd (x.lit E) (y.lit E) (z.lit E)
  | .mdel x y=>.mdel (x.lit E) (y.lit E)
  | .alloc t z=>.alloc t z
  | .box t x=>.box t (x.lit E)
  | .bslice t s n l=>.bslice t s n (l.map (·.lit E))
  | .mkmap=>.mkmap
  | .mkslice t s z k x y=>.mkslice t s z k (x.lit E) (y.lit E)
  | .call f l=>.call f l
  | .callv f l=>.callv f l
  | .invoke x tb l=>.invoke x tb l
def Rep (n:Nat) (E:EV) (env:List AV):Prop:=env.length=n∧∀ t,E.get t=env.getD t .und
theorem Rep.opd {n:Nat} {E:EV} {env:List AV} (h:Rep n E env) (x:Opd):x.evE E=x.eval env:=by
  cases x with
  | tmp t=>exact h.2 t
  | _=>rfl
theorem Rep.opds {n:Nat} {E:EV} {env:List AV} (h:Rep n E env) (l:List Opd):l.map (·.evE E)=l.map (·.eval env):=List.map_congr_left fun x _=>h.opd x
theorem Rep.lit {n:Nat} {E:EV} {env:List AV} (h:Rep n E env) (x:Opd):(x.lit E).eval []=x.eval env:=h.opd x
theorem Rep.lits {n:Nat} {E:EV} {env:List AV} (h:Rep n E env) (l:List Opd):(l.map (·.lit E)).map (·.eval [])=l.map (·.eval env):=by
  rw [FO]; exact BP fun x _=>h.lit x
theorem Rep.lito {n:Nat} {E:EV} {env:List AV} (h:Rep n E env) (l:Option Opd):(l.map (·.lit E)).map (·.eval [])=l.map (·.eval env):=by
  cases l with
  | none=>rfl
  | some x=>simp [h.lit x]
theorem Rep.aop {n:Nat} {E:EV} {env:List AV} (h:Rep n E env) (m:Nat→Option Blk) (b:Nat) (x:AOp):aop m [] b (x.lit E)=aop m env b x:=by
  cases x <;> simp only [AOp.lit,Sak.aop,h.lit,h.lits,h.lito]
  rename_i z ps
  rw [FO]
  congr 2
  exact BP fun p _=>by simp only [Function.comp,h.lit]
theorem Rep.set {n:Nat} {E:EV} {env:List AV} (h:Rep n E env) {d:Nat} (hd:d<n) (v:AV):Rep n ((d,v) :: E) (env.set d v):=by
  refine ⟨by rw [List.length_set]; exact h.1,fun t=>?_⟩
  simp only [EV.get]
  split
  · rename_i hb
    obtain rfl:=CJ hb
    rw [Zr,List.getElem?_set_self (by rw [h.1]; exact hd)]
    rfl
  · rename_i hb
    rw [h.2,Zr,Zr,List.getElem?_set_ne (DH hb)]
theorem nF:∀ (l:List AV) (i t:Nat),i≤t→(jV i l).get t=l.getD (t - i) .und
  | [],i,t,h=>by simp [jV,EV.get]
  | x :: l,i,t,h=>by
    simp only [jV,EV.get]
    split
    · rename_i hb
      obtain rfl:=CJ hb
      simp
    · rename_i hb
      have hne:=DH hb
      rw [nF l (i+1) t (by omega),show t - i=(t - (i+1))+1 from by omega]
      simp
theorem Rep.enum {n:Nat} {args:List AV} (h:args.length≤n):Rep n (jV 0 args) (args ++ List.replicate (n - args.length) .und):=by
  refine ⟨by simp; omega,fun t=>?_⟩
  rw [nF args 0 t (Nat.zero_le _),Nat.sub_zero,Zr,Zr]
  by_cases ht:t<args.length
  · rw [List.getElem?_append_left ht]
  · rw [List.getElem?_eq_none (by omega),List.getElem?_append_right (by omega),List.getElem?_replicate]
    split <;> rfl
def sY (E:EV) (m:Nat→Option Blk):Nat×Option (Nat×Bool)→Option AV
  | (t,none)=>some (E.get t)
  | (a,some (n,agg))=>(aZ m n agg (E.get a)).map (·.v)
def pW (E:EV) (m:Nat→Option Blk):List (Nat×Option (Nat×Bool))→Option (List AV)
  | []=>some []
  | r :: l=>match sY E m r,pW E m l with
    | some x,some xs=>some (x :: xs)
    | _,_=>none
theorem Rep.resL {n:Nat} {E:EV} {env:List AV} (h:Rep n E env) (m:Nat→Option Blk):∀ l,pW E m l=resL env m l
  | []=>rfl
  | r :: l=>by
    have h1:sY E m r=oQ env m r:=by
      obtain ⟨a,o⟩:=r
      cases o with
      | none=>simp only [sY,oQ,h.2]
      | some p=>obtain ⟨k,g⟩:=p; simp only [sY,oQ,h.2]
    simp only [pW,Sak.resL,h1,h.resL m l]
    cases oQ env m r <;> cases Sak.resL env m l <;> rfl

section
variable (call:FuncId→List AV→AM→Nat→Option Ef) (n:Nat)
def Ut (x:AV) (as:List AV) (m:AM) (b:Nat):Option Ef:=match x with
  | .fn (.func g) first cap=>call g (first ++ as ++ cap) m b
  | _=>none
def Us (tb:List (Nat×Nat)) (x:AV) (as:List AV) (m:AM) (b:Nat):Option Ef:=match x with
  | .iface t v=>match Be tb t with
    | some g=>call g (v :: as) m b
    | none=>none
  | _=>none
def Li (op:AOp) (E:EV) (m:AM) (b:Nat):Option Ef :=
  match op with
  | .call f args=>call f (args.map (·.evE E)) m b
  | .callv x args=>Ut call (x.evE E) (args.map (·.evE E)) m b
  | .invoke x tb args=>Us call tb (x.evE E) (args.map (·.evE E)) m b
  | x=>(aop m.get [] b (x.lit E)).map fun r=>(r.v,r.ups,r.rd)
def If:Bool→AOp→EV→AM→Nat→Option Ef
  | true,op,E,m,b=>Li call op E m b
  | false,_,_,_,_=>some (.tup [],[],[])
def Ie:AV→Bool→AOp→EV→AM→Nat→Option Ef
  | .bool t,want,op,E,m,b=>If call (t == want) op E m b
  | .tup [],_,_,_,_,_=>some (.tup [],[],[])
  | _,_,_,_,_,_=>none
def Lh:Option (Nat×Bool)→AOp→EV→AM→Nat→Option Ef
  | none,op,E,m,b=>Li call op E m b
  | some (s,want),op,E,m,b=>Ie call (E.get s) want op E m b
def wX (E:EV):Option Nat→AV→Option EV
  | none,_=>some E
  | some d,v=>match Nat.blt d n with
    | true=>some ((d,v) :: E)
    | false=>none
def De : List AO→EV→AM→Nat→Option (EV×AM×Nat)
  | [],E,m,b=>some (E,m,b)
  | o :: rest,E,m,b=>match Lh call o.guard o.op E m b with
    | some e=>match wX n E o.dst e.1 with
      | some E'=>De rest E' (m.upd e.2.1) (b+16)
      | none=>none
    | none=>none
def Df (un:List (Nat×Nat)):List AO→List Ef→EV→AM→Nat→Option (EV×AM×Nat)
  | [],tr,E,m,b=>match dynOk un tr.reverse with
    | true=>some (E,m,b)
    | false=>none
  | o :: rest,tr,E,m,b=>match Lh call o.guard o.op E m b with
    | some e=>match wX n E o.dst e.1 with
      | some E'=>Df un rest (e :: tr) E' (m.upd e.2.1) (b+16)
      | none=>none
    | none=>none
abbrev uS:=Ex×EV×AM×Nat
def Lk:Option (EV×AM×Nat)→Option uS
  | some r=>some (.normal,r)
  | none=>none
def nT (f:EV→AM→Nat→Option uS):Option uS→Option uS
  | some (.normal,E,m,b)=>f E m b
  | some (.exit i,r)=>some (.exit i,r)
  | some (.ret,r)=>some (.ret,r)
  | none=>none
def zK (i:Nat):Option uS→Option uS
  | some (.exit j,r)=>match GC j i with
    | true=>some (.normal,r)
    | false=>some (.exit j,r)
  | some (.normal,r)=>some (.normal,r)
  | some (.ret,r)=>some (.ret,r)
  | none=>none
def sQ (body:EV→AM→Nat→Option uS) (b0:Nat):Nat→EV→AM→Nat→Option uS
  | 0,_,_,_=>none
  | k+1,E,m,b=>match Nat.ble b0 b with
    | true=>nT (sQ body b0 k) (body E m b)
    | false=>none
def lL (b0 k:Nat):ACode→EV→AM→Nat→Option uS
  | .skip,E,m,b=>some (.normal,E,m,b)
  | .ret,E,m,b=>some (.ret,E,m,b)
  | .exit i,E,m,b=>some (.exit i,E,m,b)
  | .seq x y,E,m,b=>nT (lL b0 k y) (lL b0 k x E m b)
  | .block i x,E,m,b=>zK i (lL b0 k x E m b)
  | .cond c x y,E,m,b=>match c.evE E with
    | .bool true=>lL b0 k x E m b
    | .bool false=>lL b0 k y E m b
    | _=>none
  | .loop x,E,m,b=>sQ (lL b0 k x) b0 k E m b
  | .reg ops,E,m,b=>Lk (De call n ops E m b)
  | .regT ops un,E,m,b=>Lk (Df call n un ops [] E m b)
def Bc (b:Nat) (m:AM) (l:List Nat):List Nat:=bS b (gY m l) l
def sA (b:Nat) (v:AV) (m':AM):List (Nat×Nat):=uC b (Bc b m' (Bc b m' (bS b (v.nms ++ pT b m') [])))
def rN (b:Nat) (m m':AM) (v:AV) (ren:List (Nat×Nat)):Option Ef :=
  match stOk b (b+15) [] ren m' && inlOk b m [] ren (v.tr (stT b (b+15) [] ren m')) (stM b (b+15) [] ren (stT b (b+15) [] ren m') m') with
  | true=>some (v.tr (stT b (b+15) [] ren m'),xV m (stM b (b+15) [] ren (stT b (b+15) [] ren m') m'),m.map (·.1))
  | false=>none
def Cm (b:Nat) (m:AM) (res:List (Nat×Option (Nat×Bool))):Option uS→Option Ef
  | none=>none
  | some (.exit _,_)=>none
  | some (_,env',m',_)=>match pW env' m'.get res with
    | some l=>rN b m m' (cI l) (sA b (cI l) m')
    | none=>none
def Od (k:Nat) (A:AFn) (args:List AV) (b:Nat) (m:AM):Option Ef :=
  match decide (args.length≤A.n) && decide (1≤b) && decide (m.map (·.1)).Nodup && m.all (fun p=>decide (p.1<b - 1) && p.2.inN (m.map (·.1))) && eV (m.map (·.1)) args with
  | true=>Cm b m A.res (lL call A.n b k A.code (jV 0 args) m b)
  | false=>none
def Xl (k:Nat) (args:List AV) (b:Nat) (M:AM):Option AFn→Option Ef
  | none=>none
  | some A=>Od call k A args b (eN M (reachM M (bS 1 (eM args) [])))
def Oe (f:Unit→Option Ef):Option Ef→Option Ef
  | some e=>some e
  | none=>f ()
end
def Id (tab:List (Nat×AFn)) (L:List OE) (k:Nat):Nat→FuncId→List AV→AM→Nat→Option Ef
  | 0,_,_,_,_=>none
  | n+1,f,args,M,b=>Oe (fun _=>Xl (Id tab L k n) k args b M (Cg tab f)) (Am L f args M b)
def Ct (res:List (Nat×Option (Nat×Bool))):Option uS→Option AV
  | none=>none
  | some (.exit _,_)=>none
  | some (_,env',m',_)=>match pW env' m'.get res with
    | some l=>match decide (m'.map (·.1)).Nodup && m'.all (fun p=>decide (1≤p.1)) && (bS 1 (cI l).nms []).all (fun g=>decide (1≤g)) && cC m' (bS 1 (cI l).nms []) with
      | true=>some ((cI l).tr (stT 1 1 (bS 1 (cI l).nms []) [] m'))
      | false=>none
    | none=>none
def Iv (tab:List (Nat×AFn)) (L:List OE) (k n:Nat) (args:List AV):Option AFn→Option AV
  | none=>none
  | some A=>match decide (args.length≤A.n) with
    | true=>Ct A.res (lL (Id tab L k n) A.n 1 k A.code (jV 0 args) [] 1)
    | false=>none
def Iw (tab:List (Nat×AFn)) (L:List OE) (k n:Nat) (f:FuncId) (args:List AV):Option AV:=Iv tab L k n args (Cg tab f)

section
variable {P:Program} {call:FuncId→List AV→AM→Nat→Option Ef}
def gR (P:Program) (call:FuncId→List AV→AM→Nat→Option Ef):Prop:=∀ f args m b e,call f args m b=some e→∀ κ:Ef→Prop,κ e→AC P f args m b κ
theorem wE (hc:gR P call) {n:Nat} {op:AOp} {E:EV} {env:List AV} (hr:Rep n E env) {m:AM} {b:Nat} {e:Ef} (h:Li call op E m b=some e) {κ:Ef→Prop} (hk:κ e):dX P op κ env m b:=by
  unfold Li at h
  unfold dX
  split at h
  · rw [hr.opds] at h; exact hc _ _ _ _ _ h _ hk
  · rw [hr.opds,hr.opd] at h
    unfold Ut at h
    split at h
    · rename_i heq; simp only [heq,jQ]; exact hc _ _ _ _ _ h _ hk
    · cases h
  · rw [hr.opds,hr.opd] at h
    unfold Us at h
    split at h
    · rename_i heq
      split at h
      · rename_i hg; simp only [heq,rO,hg]; exact hc _ _ _ _ _ h _ hk
      · cases h
    · cases h
  · rw [hr.aop] at h
    simp only [Option.map_eq_some_iff] at h
    obtain ⟨r,h1,rfl⟩:=h
    simp only [h1,fP]
    exact hk
theorem wD (hc:gR P call) {n:Nat} {g:Option (Nat×Bool)} {op:AOp} {E:EV} {env:List AV} (hr:Rep n E env) {m:AM} {b:Nat} {e:Ef} (h:Lh call g op E m b=some e) {κ:Ef→Prop} (hk:κ e):gK P g op κ env m b:=by
  cases g with
  | none=>exact wE hc hr h hk
  | some p =>
    obtain ⟨s,w⟩:=p
    simp only [Lh] at h
    simp only [gK]
    rw [hr.2] at h
    generalize env.getD s .und=x at h ⊢
    cases x with
    | bool t =>
      simp only [Ie] at h
      simp only [cU]
      cases htw:(t == w) with
      | true=>rw [htw] at h; exact wE hc hr h hk
      | false=>rw [htw] at h; simp only [If,Zn] at h; subst h; exact hk
    | tup l =>
      cases l with
      | nil=>simp only [Ie,Zn] at h; subst h; exact hk
      | cons y l=>simp [Ie] at h
    | _=>simp [Ie] at h
theorem sX {n:Nat} {E E':EV} {env:List AV} (hr:Rep n E env) {d:Option Nat} {v:AV} (h:wX n E d v=some E'):Rep n E' (gG env d v):=by
  cases d with
  | none=>simp only [wX,Zn] at h; subst h; exact hr
  | some d =>
    simp only [wX] at h
    split at h
    · rename_i hd
      simp only [Zn] at h; subst h
      exact hr.set (CW hd) v
    · cases h
theorem wF (hc:gR P call) {n:Nat}:∀ {xs:List AO} {E:EV} {env:List AV} {m:AM} {b:Nat} {r:EV×AM×Nat},Rep n E env→De call n xs E m b=some r→∃ env',Rep n r.1 env'∧∀ k:KE,k env' r.2.1 r.2.2→kA P xs k env m b
  | [],E,env,m,b,r,hr,h=>by simp only [De,Zn] at h; subst h; exact ⟨env,hr,fun k hk=>hk⟩
  | o :: rest,E,env,m,b,r,hr,h=>by
    simp only [De] at h
    split at h
    · rename_i e he
      split at h
      · rename_i E' hE
        obtain ⟨env',h1,h2⟩:=wF hc (sX hr hE) h
        exact ⟨env',h1,fun k hk=>wD hc hr he (h2 k hk)⟩
      · cases h
    · cases h
theorem wG (hc:gR P call) {n:Nat} {un:List (Nat×Nat)}:∀ {xs:List AO} {tr:List Ef} {E:EV} {env:List AV} {m:AM} {b:Nat} {r:EV×AM×Nat},Rep n E env→Df call n un xs tr E m b=some r→∃ env',Rep n r.1 env'∧∀ k:KE,k env' r.2.1 r.2.2→jK P un xs k tr env m b
  | [],tr,E,env,m,b,r,hr,h=>by
    simp only [Df] at h
    split at h
    · rename_i hd; simp only [Zn] at h; subst h; exact ⟨env,hr,fun k hk=>⟨hd,hk⟩⟩
    · cases h
  | o :: rest,tr,E,env,m,b,r,hr,h=>by
    simp only [Df] at h
    split at h
    · rename_i e he
      split at h
      · rename_i E' hE
        obtain ⟨env',h1,h2⟩:=wG hc (sX hr hE) h
        exact ⟨env',h1,fun k hk=>wD hc hr he (h2 k hk)⟩
      · cases h
    · cases h
theorem wB (hc : gR P call) {n b0 k:Nat}:∀ {c:ACode} {E:EV} {env:List AV} {m:AM} {b:Nat} {r:uS},Rep n E env→lL call n b0 k c E m b=some r→∃ env',Rep n r.2.1 env'∧∀ K:KX,K r.1 env' r.2.2.1 r.2.2.2→vc P b0 c K env m b:=by
  intro c
  induction c with
  | skip=>intro E env m b r hr h; simp only [lL,Zn] at h; subst h; exact ⟨env,hr,fun K hk=>hk⟩
  | ret=>intro E env m b r hr h; simp only [lL,Zn] at h; subst h; exact ⟨env,hr,fun K hk=>hk⟩
  | exit i=>intro E env m b r hr h; simp only [lL,Zn] at h; subst h; exact ⟨env,hr,fun K hk=>hk⟩
  | seq x y ihx ihy =>
    intro E env m b r hr h
    simp only [lL] at h
    simp only [vc]
    cases hx:lL call n b0 k x E m b with
    | none=>rw [hx] at h; cases h
    | some q =>
      rw [hx] at h
      obtain ⟨e,env1,m1,b1⟩:=q
      obtain ⟨env',h1,h2⟩:=ihx hr hx
      cases e with
      | normal =>
        obtain ⟨env2,h3,h4⟩:=ihy h1 h
        exact ⟨env2,h3,fun K hk=>h2 _ (h4 K hk)⟩
      | exit i=>simp only [nT,Zn] at h; subst h; exact ⟨env',h1,fun K hk=>h2 _ hk⟩
      | ret=>simp only [nT,Zn] at h; subst h; exact ⟨env',h1,fun K hk=>h2 _ hk⟩
  | block i x ih =>
    intro E env m b r hr h
    simp only [lL] at h
    simp only [vc]
    cases hx:lL call n b0 k x E m b with
    | none=>rw [hx] at h; cases h
    | some q =>
      rw [hx] at h
      obtain ⟨e,env1,m1,b1⟩:=q
      obtain ⟨env',h1,h2⟩:=ih hr hx
      cases e with
      | normal=>simp only [zK,Zn] at h; subst h; exact ⟨env',h1,fun K hk=>h2 _ hk⟩
      | ret=>simp only [zK,Zn] at h; subst h; exact ⟨env',h1,fun K hk=>h2 _ hk⟩
      | exit j =>
        simp only [zK] at h
        split at h
        · rename_i hj
          simp only [Zn] at h; subst h
          exact ⟨env',h1,fun K hk=>h2 _ (by simp only [gP,if_pos (CJ hj)]; exact hk)⟩
        · rename_i hj
          simp only [Zn] at h; subst h
          exact ⟨env',h1,fun K hk=>h2 _ (by simp only [gP,if_neg (DH hj)]; exact hk)⟩
  | cond q x y ihx ihy =>
    intro E env m b r hr h
    simp only [lL] at h
    simp only [vc]
    rw [hr.opd] at h
    split at h
    · rename_i hq; simp only [hq,nE,lB]; exact ihx hr h
    · rename_i hq; simp only [hq,nE,lB]; exact ihy hr h
    · cases h
  | loop x ih =>
    intro E env m b r hr h
    simp only [lL] at h
    simp only [vc]
    have main : ∀ j E env m b,Rep n E env→sQ (lL call n b0 k x) b0 j E m b=some r→b0≤b∧∃ env',Rep n r.2.1 env'∧∀ K:KX,K r.1 env' r.2.2.1 r.2.2.2→rZ P b0 x K j env m b:=by
      intro j
      induction j with
      | zero=>intro E env m b _ h; cases h
      | succ j ihn =>
        intro E env m b hr h
        simp only [sQ] at h
        split at h
        · rename_i hb
          refine ⟨CW hb,?_⟩
          cases hx:lL call n b0 k x E m b with
          | none=>rw [hx] at h; cases h
          | some q =>
            rw [hx] at h
            obtain ⟨e,env1,m1,b1⟩:=q
            obtain ⟨env',h1,h2⟩:=ih hr hx
            cases e with
            | normal =>
              obtain ⟨h3,env2,h4,h5⟩:=ihn _ _ _ _ h1 h
              exact ⟨env2,h4,fun K hk=>h2 _ ⟨h3,h5 K hk⟩⟩
            | exit i=>simp only [nT,Zn] at h; subst h; exact ⟨env',h1,fun K hk=>h2 _ hk⟩
            | ret=>simp only [nT,Zn] at h; subst h; exact ⟨env',h1,fun K hk=>h2 _ hk⟩
        · cases h
    obtain ⟨h1,env',h2,h3⟩:=main _ _ _ _ _ hr h
    exact ⟨env',h2,fun K hk=>nH k h1 (h3 K hk)⟩
  | reg ops =>
    intro E env m b r hr h
    simp only [lL] at h
    cases hx:De call n ops E m b with
    | none=>rw [hx] at h; cases h
    | some q =>
      rw [hx] at h; simp only [Lk,Zn] at h; subst h
      obtain ⟨env',h1,h2⟩:=wF hc hr hx
      exact ⟨env',h1,fun K hk=>h2 _ hk⟩
  | regT ops un =>
    intro E env m b r hr h
    simp only [lL] at h
    cases hx:Df call n un ops [] E m b with
    | none=>rw [hx] at h; cases h
    | some q =>
      rw [hx] at h; simp only [Lk,Zn] at h; subst h
      obtain ⟨env',h1,h2⟩:=wG hc hr hx
      exact ⟨env',h1,fun K hk=>h2 _ hk⟩
theorem Cc (hmix:P.follows .mixedOrders=true) (hc:gR P call) {k:Nat} {f:FuncId} {A:AFn} (hA:xf P f=some A) {args:List AV} {b:Nat} {M:AM} {e:Ef} (h:Od call k A args b (eN M (reachM M (bS 1 (eM args) [])))=some e) {κ:Ef→Prop} (hk:κ e):AC P f args M b κ:=by
  generalize hm:eN M (reachM M (bS 1 (eM args) []))=m at h
  unfold Od at h
  split at h
  · rename_i hq
    simp only [Zq,decide_eq_true_eq] at hq
    obtain ⟨⟨⟨⟨q1,q2⟩,q3⟩,q4⟩,q5⟩:=hq
    cases hx:lL call A.n b k A.code (jV 0 args) m b with
    | none=>rw [hx] at h; cases h
    | some r =>
      rw [hx] at h
      obtain ⟨x,E',m',b'⟩:=r
      obtain ⟨env',hr',hv⟩:=wB hc (Rep.enum q1) hx
      simp only at hr' hv
      rw [show Cm b m A.res (some (x,E',m',b'))=(match x with | .exit _=>none | _=>match resL env' m'.get A.res with | some l=>rN b m m' (cI l) (sA b (cI l) m') | none=>none) from by cases x <;> simp only [Cm,hr'.resL]] at h
      have main:(match resL env' m'.get A.res with | some l=>rN b m m' (cI l) (sA b (cI l) m') | none=>none)=some e→(∀ fin l,resL env' m'.get A.res=some l→fin (cI l) m' b'→dH A.res fin x env' m' b')→AC P f args M b κ:=by
        intro h hr
        split at h
        · rename_i l hl
          unfold rN at h
          split at h
          · rename_i hs
            simp only [Zn] at h
            rw [Zq] at hs
            exact AC.inlE hmix hA q1 q2 hm q3 q4 q5 ⟨l,m',b',⟨sA b (cI l) m',hs.1,hs.2,by rw [h]; exact hk⟩,fun e' he=>hv _ (hr _ l hl he)⟩
          · cases h
        · cases h
      cases x with
      | exit i=>cases h
      | normal=>exact main h fun fin l hl hf=>by simp only [dH,hl,fE]; exact hf
      | ret=>exact main h fun fin l hl hf=>by simp only [dH,hl,fE]; exact hf
  · cases h
def lS (P:Program) (tab:List (Nat×AFn)):Prop:=∀ p,p∈tab→xf P p.1=some p.2
def bM (P:Program) (L:List OE):Prop:=∀ o,o∈L→bO P o.f o.args (o.v,[],[])
theorem wT {tab:List (Nat×AFn)} (ht:lS P tab):∀ {f:Nat} {A:AFn},Cg tab f=some A→xf P f=some A:=by
  induction tab with
  | nil=>intro f A h; cases h
  | cons p l ih =>
    intro f A h
    simp only [Cg] at h
    split at h
    · rename_i hb
      simp only [Zn] at h
      rw [← h,← CJ hb]
      exact ht p (BH ..)
    · exact ih (fun q hq=>ht q (AR _ hq)) h
theorem Al {L:List OE} (hL:bM P L) {f:Nat} {xs:List AV}:∀ {v:AV},Ak f xs L=some v→bO P f xs (v,[],[]):=by
  induction L with
  | nil=>intro v h; cases h
  | cons o l ih =>
    intro v h
    simp only [Ak] at h
    split at h
    · rename_i hb
      rw [Zq] at hb
      simp only [Zn] at h
      rw [← h,← CJ hb.1]
      exact sD (jW _ _ hb.2) (hL o (BH ..))
    · exact ih (fun q hq=>hL q (AR _ hq)) h
theorem An {L:List OE} (hL:bM P L):gR P (Am L):=by
  intro f args m b e h κ hk
  unfold Am at h
  split at h
  · cases h
  · split at h
    · cases h
    · rename_i v hv
      split at h
      · rename_i hq
        simp only [Zq,decide_eq_true_eq] at hq
        simp only [Zn] at h
        rw [← h] at hk
        exact AC.pk _ (Al hL hv) rfl hq.1.1 hq.1.2 hq.2 hk
      · cases h
theorem wC (hmix:P.follows .mixedOrders=true) {tab:List (Nat×AFn)} {L:List OE} (ht:lS P tab) (hL:bM P L) {k:Nat}:∀ n,gR P (Id tab L k n)
  | 0=>fun f args m b e h=>by cases h
  | n + 1=>fun f args m b e h κ hk=>by
    simp only [Id] at h
    cases ho:Am L f args m b with
    | some e' =>
      rw [ho] at h
      simp only [Oe,Zn] at h
      subst h
      exact An hL _ _ _ _ _ ho _ hk
    | none =>
      rw [ho] at h
      simp only [Oe] at h
      cases hA:Cg tab f with
      | none=>rw [hA] at h; cases h
      | some A=>rw [hA] at h; exact Cc hmix (wC hmix ht hL n) (wT ht hA) h hk
theorem bB (hmix:P.follows .mixedOrders=true) {tab:List (Nat×AFn)} {L:List OE} (ht:lS P tab) (hL:bM P L) {k n:Nat} {f:FuncId} {args:List AV} {v:AV} (h:Iw tab L k n f args=some v):bO P f args (v,[],[]):=by
  unfold Iw at h
  cases hA:Cg tab f with
  | none=>rw [hA] at h; cases h
  | some A =>
    rw [hA] at h
    unfold Iv at h
    simp only [] at h
    split at h
    · rename_i hl
      refine aG hmix (wT ht hA) (of_decide_eq_true hl) fun _ _=>?_
      cases hx:lL (Id tab L k n) A.n 1 k A.code (jV 0 args) [] 1 with
      | none=>rw [hx] at h; cases h
      | some r =>
        rw [hx] at h
        obtain ⟨x,E',m',b'⟩:=r
        obtain ⟨env',hr',hv⟩:=wB (wC hmix ht hL n) (Rep.enum (of_decide_eq_true hl)) hx
        simp only at hr' hv
        refine hv _ ?_
        rw [show Ct A.res (some (x,E',m',b'))=(match x with | .exit _=>none | _=>match resL env' m'.get A.res with
            | some l=>match decide (m'.map (·.1)).Nodup && m'.all (fun p=>decide (1≤p.1)) && (bS 1 (cI l).nms []).all (fun g=>decide (1≤g)) && cC m' (bS 1 (cI l).nms []) with
              | true=>some ((cI l).tr (stT 1 1 (bS 1 (cI l).nms []) [] m'))
              | false=>none
            | none=>none) from by cases x <;> simp only [Ct,hr'.resL]] at h
        have main:(match resL env' m'.get A.res with
            | some l=>match decide (m'.map (·.1)).Nodup && m'.all (fun p=>decide (1≤p.1)) && (bS 1 (cI l).nms []).all (fun g=>decide (1≤g)) && cC m' (bS 1 (cI l).nms []) with
              | true=>some ((cI l).tr (stT 1 1 (bS 1 (cI l).nms []) [] m'))
              | false=>none
            | none=>none)=some v→(∀ fin l,resL env' m'.get A.res=some l→fin (cI l) m' b'→dH A.res fin x env' m' b')→dH A.res (gB 1 [] (v,[],[])) x env' m' b':=by
          intro h hr
          split at h
          · rename_i l hl
            split at h
            · rename_i hs
              simp only [Zq,decide_eq_true_eq] at hs
              simp only [Zn] at h
              exact hr _ l hl (sJ rfl hs.1.1.1 hs.1.1.2 hs.1.2 hs.2 rfl (Wk.of_eq h))
            · cases h
          · cases h
        cases x with
        | exit i=>cases h
        | normal=>exact main h fun fin l hl hf=>by simp only [dH,hl,fE]; exact hf
        | ret=>exact main h fun fin l hl hf=>by simp only [dH,hl,fE]; exact hf
    · cases h
end
end Go.Sak
