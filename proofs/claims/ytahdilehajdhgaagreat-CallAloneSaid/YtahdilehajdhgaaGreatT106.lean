/- Part T106 of the proofs about the program: Rh. Conditions: none. -/
import Derived.Test.YtahdilehajdhgaaGreatT104
import Derived.Maps.RangeRun
import Derived.Deep.LoopGhost
open Array renaming contains_push→V1,ext→X6,getElem?_eq_getElem→M3,getElem?_eq_some_iff→H0,getElem?_setIfInBounds_ne→O0
open List renaming filter_cons→R8,getElem?_map→P3,length_nil→L7,mem_map→G5
open Nat renaming le_refl→G1,lt_of_lt_of_le→H5
open Go.Proofs.Tryz renaming prog→D8
namespace Go.Sak
open Go Go.RowKit Go.Proofs Go.ChangeMaps
set_option linter.unusedVariables false
set_option linter.unusedSimpArgs false
set_option maxRecDepth 100000
set_option maxHeartbeats 4000000
theorem VR.turn {c:Ctx} {w':World} (hsz:c.w.heap.size≤w'.heap.size) (hcell:∀ a v,c.w.cell? a=some v→w'.cell? a=some v):∀ {x:AV} {v:Value},VR c x v→VR { c with w:=w' } x v:=by
  intro x v h
  induction h with
  | int k n h=>exact .int k n h
  | bool b=>exact .bool b
  | str s h=>exact .str s h
  | nilp=>exact .nilp
  | ptr g row off a h1 h2=>exact .ptr g row off a h1 h2
  | pv cells a us h1 h2 h3 h4 h5 ih=>exact .pv cells a us h1 (H5 h2 hsz) (fun i x hi=>hcell _ _ (h3 i x hi)) h4 ih
  | slnil=>exact .slnil
  | sle sz a cap h=>exact .sle sz a cap h
  | slv0 sz=>exact .slv0 sz
  | slve sz a cap h=>exact .slve sz a cap h
  | slvs sz rows a cap us h1 h2 h3 h4 h5 h6 h7 h8 h9 ih=>exact .slvs sz rows a cap us h1 h2 h3 h4 (H5 h5 hsz) h6 (fun i r j x hi hj=>hcell _ _ (h7 i r j x hi hj)) h8 ih
  | slm g len a n cap h1 h2=>exact .slm g len a n cap h1 h2
  | mapnil=>exact .mapnil
  | mapm g r h1 h2=>exact .mapm g r h1 h2
  | fn f fs cs vs us h1 h2 h3 h4 ih1 ih2=>exact .fn f fs cs vs us h1 h2 ih1 ih2
  | fnnil=>exact .fnnil
  | iface t x v h ih=>exact .iface t x v ih
  | ifnil=>exact .ifnil
  | agg cells vs h1 h2 h3 ih=>exact .agg cells vs h1 h2 ih
  | tup cells vs h1 h2 ih=>exact .tup cells vs h1 ih
  | und v=>exact .und v
theorem Gd.turn {c:Ctx} (h:Gd c) {w':World} (hsz:c.w.heap.size≤w'.heap.size) (hcell:∀ a v,c.w.cell? a=some v→w'.cell? a=some v) (hown:∀ b,c.own b→w'.heap[b]?=c.w.heap[b]?):Gd { c with w:=w' }:=by
  have ow:∀ g b,c.m g=some b→w'.heap[(c.ρ g).blk]?=c.w.heap[(c.ρ g).blk]?:=fun g b hm=>hown _ ⟨g,by simp [Ctx.L,hm],rfl⟩
  refine ⟨⟨fun g hg=>H5 (h.lt g hg) hsz,h.inj,h.notF,h.used,fun g t sz rs hm=>?_,fun g es hm=>?_⟩,fun b hb=>H5 (h.flt b hb) hsz⟩
  · obtain ⟨cs,h1,h2,h3,h4,h5,h7⟩:=h.rows g t sz rs hm
    exact ⟨cs,(ow g _ hm).trans h1,h2,h3,h4,h5,fun i r hi=>⟨(h7 i r hi).1,fun j x hj=>⟨((h7 i r hi).2 j x hj).1,((h7 i r hi).2 j x hj).2.turn hsz hcell⟩⟩⟩
  · obtain ⟨en,clk,h1,h2,h3⟩:=h.mp g es hm
    exact ⟨en,clk,(ow g _ hm).trans h1,h2,fun i k v hi=>by obtain ⟨e,h4,h5,h6⟩:=h3 i k v hi; exact ⟨e,h4,h5.turn hsz hcell,h6.turn hsz hcell⟩⟩
theorem St.turn {c0 c:Ctx} (h:St c0 c) {w':World} (ho:w'.os=c.w.os) (ht:w'.tape=c.w.tape) (hp:w'.output=c.w.output) (hsz:c.w.heap.size≤w'.heap.size) (hk:∀ b,b<c0.w.heap.size→w'.heap[b]?=c.w.heap[b]?):St c0 { c with w:=w' } :=
  ⟨ho.trans h.os,ht.trans h.tape,hp.trans h.output,Nat.le_trans h.size hsz,fun b hb hn=>(hk b hb).trans (h.keep b hb hn),h.F,h.own,h.U,h.names⟩
def dv (d:Due):Value:=.agg #[.int .i64 d.tm,.int .i64 d.id]
def pm (l:List Due):AM:=[(2,.rows 169 1 [[.slm 3 l.length]]),(3,.rows 51 2 (l.map cC))]
def KY (w:World):Ctx:=⟨fun b=>b<w.heap.size,fun _=>default,fun _=>False,AM.get [],w⟩
def HS (w:World) (bm clk r p:Nat) (ents:Array MapEntry) (val:MapEntry→Due) (k:Nat) (a:Act) (W:World):Prop :=
  ∃ (seen:Array Nat) (ck:Nat) (l:List Due) (c:Ctx),k=(leftOf ents seen).size∧clk≤ck∧W.heap[r]?=some (.mapIter (some bm) clk seen ck)∧W.heap[bm]?=some (.map ents clk) ∧
    c.w=W∧Gd c∧St (KY w) c∧c.m=(pm l).get∧(∀ n,c.U n→2≤n∧n<5)∧VR c (.ptr 2 0 0) (.pointer (some ⟨p,0,none⟩))∧¬ c.own r ∧
    l.Perm ((ents.toList.filter fun e=>seen.contains e.born).map val) ∧
    ∃ t0 t1 t2 t4 t5 t6 t7 t8 t10 t11 t12 t13 t14 t15 t16 t17 t18 t19 t20 t21:Value,a={ tmps:=#[t0,t1,t2,.pointer (some ⟨p,0,none⟩),t4,t5,t6,t7,t8,.pointer (some ⟨r,0,none⟩),t10,t11,t12,t13,t14,t15,t16,t17,t18,t19,t20,t21],defers:=[] }
theorem Md {w:World} {bm clk:Nat} {ents:Array MapEntry} (hb:w.heap[bm]?=some (.map ents clk)) {val:MapEntry→Due} (t1 t4 t5 t10 t11 t12 t13 t14 t15 t16 t17 t18 t19 t20 t21 t6 t7 t8 t0 t2:Value) :
    HS w bm clk (w.heap.size+2) (w.heap.size+1) ents val ents.size { tmps:=#[t0,t1,t2,.pointer (some ⟨w.heap.size+1,0,none⟩),t4,t5,t6,t7,t8,.pointer (some ⟨w.heap.size+2,0,none⟩),t10,t11,t12,t13,t14,t15,t16,t17,t18,t19,t20,t21],defers:=[] }
      ((((w.alloc (.cells #[] 51)).alloc (.cells #[.slice (some ⟨w.heap.size,0,none⟩) 0 0] 169))).alloc (.mapIter (some bm) clk #[] clk)):=by
  have hlt:bm<w.heap.size:=(H0.1 hb).1
  obtain ⟨W,hW⟩:∃ W,((((w.alloc (.cells #[] 51)).alloc (.cells #[.slice (some ⟨w.heap.size,0,none⟩) 0 0] 169))).alloc (.mapIter (some bm) clk #[] clk))=W:=⟨_,rfl⟩
  have hh:W.heap=((w.heap.push (.cells #[] 51)).push (.cells #[.slice (some ⟨w.heap.size,0,none⟩) 0 0] 169)).push (.mapIter (some bm) clk #[] clk):=by rw [← hW]; rfl
  have ho:W.os=w.os∧W.tape=w.tape∧W.output=w.output:=by rw [← hW]; exact ⟨rfl,rfl,rfl⟩
  have s1:(w.alloc (.cells #[] 51)).heap.size=w.heap.size+1:=by simp
  have s2:((w.alloc (.cells #[] 51)).alloc (.cells #[.slice (some ⟨w.heap.size,0,none⟩) 0 0] 169)).heap.size=w.heap.size+2:=by simp
  have g1:W.heap[w.heap.size]?=some (.cells #[] 51):=by
    rw [← hW,heap_alloc_old _ _ (by rw [s2]; omega),heap_alloc_old _ _ (by rw [s1]; omega)]; exact heap_alloc_new w _
  have g2:W.heap[w.heap.size+1]?=some (.cells #[.slice (some ⟨w.heap.size,0,none⟩) 0 0] 169):=by
    rw [← hW,heap_alloc_old _ _ (by rw [s2]; omega)]
    have:=heap_alloc_new (w.alloc (.cells #[] 51)) (.cells #[.slice (some ⟨w.heap.size,0,none⟩) 0 0] 169)
    rwa [s1] at this
  have g3:W.heap[w.heap.size+2]?=some (.mapIter (some bm) clk #[] clk):=by
    rw [← hW]
    have:=heap_alloc_new ((w.alloc (.cells #[] 51)).alloc (.cells #[.slice (some ⟨w.heap.size,0,none⟩) 0 0] 169)) (.mapIter (some bm) clk #[] clk)
    rwa [s2] at this
  rw [hW]
  clear hW
  have hsz:W.heap.size=w.heap.size+3:=by rw [hh]; simp
  have g0:∀ b,b<w.heap.size→W.heap[b]?=w.heap[b]?:=fun b hb=>by
    rw [hh,Array.getElem?_push_lt (by simp; omega),Array.getElem_push_lt (by simp; omega),Array.getElem_push_lt hb,M3 hb]
  obtain ⟨c,hc⟩:∃ c:Ctx,c=⟨fun b=>b<w.heap.size,fun n=>if n=2 then ⟨w.heap.size+1,1,1⟩ else ⟨w.heap.size,0,2⟩,fun n=>n=2∨n=3,(pm []).get,W⟩:=⟨_,rfl⟩
  have hL:∀ g,c.L g→g=2∨g=3:=fun g hg=>by
    rw [hc] at hg
    simp only [Ctx.L,pm,AM.get] at hg
    by_cases e:g=2
    · exact .inl e
    · by_cases e2:g=3
      · exact .inr e2
      · simp [e,e2] at hg
  have own:∀ b,c.own b→b=w.heap.size+1∨b=w.heap.size:=by
    rintro b ⟨g,hg,rfl⟩
    rcases hL g hg with rfl | rfl
    · left; rw [hc]; rfl
    · right; rw [hc]; rfl
  have hU:∀ n,c.U n↔n=2∨n=3:=fun n=>by rw [hc]
  have hgd : Gd c:=by
    refine ⟨⟨fun g hg=>?_,fun g g' hg hg' he=>?_,fun g hg=>?_,fun g hg=>(hU g).2 (hL g hg),fun g t sz rs hm=>?_,fun g es hm=>?_⟩,fun b hb=>?_⟩
    · rcases hL g hg with rfl | rfl <;> (rw [hc]; simp; omega)
    · rcases hL g hg with rfl | rfl <;> rcases hL g' hg' with rfl | rfl <;> first | rfl | (rw [hc] at he; simp at he)
    · rcases hL g hg with rfl | rfl <;> (rw [hc]; simp)
    · rcases hL g (by simp [Ctx.L,hm]) with rfl | rfl
      · rw [hc] at hm
        simp only [pm,AM.get,if_true,Option.some.injEq,Blk.rows.injEq,L7] at hm
        obtain ⟨rfl,rfl,rfl⟩:=hm
        refine ⟨#[.slice (some ⟨w.heap.size,0,none⟩) 0 0],by rw [hc]; exact g2,by rw [hc]; rfl,by rw [hc]; rfl,by rw [hc]; simp,by rw [hc]; simp [maxLen],fun i r hi=>?_⟩
        cases i with
        | succ i=>simp at hi
        | zero =>
          simp at hi; subst hi
          refine ⟨rfl,fun j x hj=>?_⟩
          cases j with
          | succ j=>simp at hj
          | zero =>
            simp at hj; subst hj
            refine ⟨rfl,?_⟩
            exact .slm 3 0 _ _ _ ((hU 3).2 (.inr rfl)) (fun _=>by rw [hc]; exact ⟨rfl,rfl,rfl⟩)
      · rw [hc] at hm
        simp [pm,AM.get] at hm
        obtain ⟨rfl,rfl,rfl⟩:=hm
        exact ⟨#[],by rw [hc]; exact g1,by rw [hc]; rfl,by rw [hc]; rfl,by rw [hc]; simp,by rw [hc]; simp [maxLen],fun i r hi=>by simp at hi⟩
    · exfalso
      rcases hL g (by simp [Ctx.L,hm]) with rfl | rfl <;> (rw [hc] at hm; simp [pm,AM.get] at hm)
    · rw [hc] at hb ⊢; simp at hb ⊢; omega
  have hst:St (KY w) c:=by
    refine ⟨by rw [hc]; exact ho.1,by rw [hc]; exact ho.2.1,by rw [hc]; exact ho.2.2,by rw [hc]; show w.heap.size≤_; rw [hsz]; omega,fun b hb _=>by rw [hc]; exact g0 b hb,by rw [hc]; rfl,fun b hb ho=>?_,fun g hg=>hg.elim,fun g hg=>hg.elim⟩
    have hb':b<w.heap.size:=hb
    rcases own b ho with e | e <;> omega
  refine ⟨#[],clk,[],c,?_,G1 _,g3,(g0 _ hlt).trans hb,by rw [hc],hgd,hst,by rw [hc],fun n hn=>?_,?_,fun ho=>?_,?_,t0,t1,t2,t4,t5,t6,t7,t8,t10,t11,t12,t13,t14,t15,t16,t17,t18,t19,t20,t21,rfl⟩
  · unfold leftOf; rw [Array.filter_eq_self.2 (fun x _=>by simp)]
  · rcases (hU n).1 hn with rfl | rfl <;> omega
  · exact .ptr 2 0 0 _ ((hU 2).2 (.inl rfl)) (fun _=>by rw [hc]; rfl)
  · rcases own _ ho with e | e <;> omega
  · simp
theorem Sr {w:World} {c:Ctx} {l:List Due} {d:Due} {p:Nat} (h6:Gd c) (h7:St (KY w) c) (h8:c.m=(pm l).get) (h9:∀ n,c.U n→2≤n∧n<5) (h10:VR c (.ptr 2 0 0) (.pointer (some ⟨p,0,none⟩))) (hl:l.length≤100000) (hd:sF .i64 d.tm∧sF .i64 d.id) :
    Calls D8 135 #[.iface 168 (.pointer (some ⟨p,0,none⟩)),.iface 51 (dv d)] c.w fun en w'=>∃ c' l',en=.returned (.tuple #[])∧c'.w=w'∧Gd c'∧St (KY w) c'∧c'.m=(pm l').get∧(∀ n,c'.U n→2≤n∧n<5)∧VR c' (.ptr 2 0 0) (.pointer (some ⟨p,0,none⟩)) ∧
      l'.Perm (d :: l)∧(∀ b,b<c.w.heap.size→c'.own b→c.own b)∧(∀ b,b<c.w.heap.size→¬ c.own b→w'.heap[b]?=c.w.heap[b]?):=by
  have hc:=JQ (l:=l) (d:=d) rfl hl
  refine (hc.2 c h6 h8 (fun n hn=>(h9 n hn).2) #[.iface 168 (.pointer (some ⟨p,0,none⟩)),.iface 51 (dv d)] ⟨rfl,fun i x hi=>?_⟩).mono ?_
  · cases i with
    | zero=>simp at hi; subst hi; exact .iface _ _ _ h10
    | succ i => cases i with
      | succ i=>simp at hi
      | zero =>
        simp at hi; subst hi
        refine .iface _ _ _ (.agg _ _ rfl (fun i x hi=>?_) (fun i x hi=>?_))
        · cases i with
          | zero=>simp [cC] at hi; subst hi; rfl
          | succ i=>cases i with
            | zero=>simp [cC] at hi; subst hi; rfl
            | succ i=>simp [cC] at hi
        · cases i with
          | zero=>simp [cC] at hi; subst hi; exact .int _ _ hd.1
          | succ i=>cases i with
            | zero=>simp [cC] at hi; subst hi; exact .int _ _ hd.2
            | succ i=>simp [cC] at hi
  · rintro en w' ⟨c1,z,rfl,rfl,g1,g2,g3,g4,g5⟩
    have hz:z=.tuple #[]:=by
      cases g5 with
      | tup _ vs k1 k2=>rw [Array.eq_empty_of_size_eq_zero (xs:=vs) k1.symm]
    subst hz
    have hm1:c1.m=AM.get [(2,.rows 169 1 [[.slm 5 (l.length+1)]]),(5,.rows 51 2 ((Gr (l ++ [d]) l.length).map cC))]:=by
      rw [g3,← AM.get_upd]
      exact (mP (by simp)).symm
    have st1:St { c with U:=fun _=>False } c1:=⟨g2.os,g2.tape,g2.output,g2.size,g2.keep,g2.F,g2.own,fun _ h=>h.elim,fun _ h=>h.elim⟩
    have st0:St (KY w) { c with U:=fun _=>False }:=⟨h7.os,h7.tape,h7.output,h7.size,h7.keep,h7.F,h7.own,fun _ h=>h.elim,fun _ h=>h.elim⟩
    have hU1:∀ n,c1.U n→2≤n∧n<21:=fun n hn=>by
      rcases g4 n hn with h | h
      · omega
      · have:=h9 n h; omega
    obtain ⟨c2,k1,k2,k3,k4,k5,k6⟩:=SubS.step (b0:=2) (dead:=4) (Z:=[]) (σ:=[(2,2),(5,3)]) (env:=[.ptr 2 0 0]) (b:=21) (by simp [stOk]) rfl { c with U:=fun _=>False } c1 #[.pointer (some ⟨p,0,none⟩)] (fun n h=>h.elim) g1 st1 hm1 (fun n hn=>.inr (hU1 n hn))
      ⟨rfl,fun i x hi=>by
        cases i with
        | zero=>simp at hi; subst hi; exact h10.mono g2
        | succ i=>simp at hi⟩
    refine ⟨c2,Gr (l ++ [d]) l.length,rfl,k1,k2,st0.trans k3,?_,fun n hn=>(k5 n hn).resolve_left (fun h=>h),?_,?_,fun b hb ho=>k3.own b hb ho,fun b hb ho=>?_⟩
    · rw [k4]
      have hlen:(Gr (l ++ [d]) l.length).length=l.length+1:=by rw [FG]; simp
      unfold pm
      rw [hlen]
      congr 1
      simp [stM,stT,nameT,lk,AV.tr,Blk.tr,trss,trs,Tb]
    · have:=k6.2 0 (.ptr 2 0 0) (by simp [stT,nameT,lk,AV.tr,trs])
      simpa using this
    · exact (Xl (by simp)).trans (List.perm_append_comm (l₂:=[d]))
    · have:=k3.keep b hb ho
      rw [k1] at this
      exact this
theorem Sx {c:Ctx} {l:List Due} {p:Nat} (h6:Gd c) (h8:c.m=(pm l).get) (h9:∀ n,c.U n→2≤n∧n<5) (h10:VR c (.ptr 2 0 0) (.pointer (some ⟨p,0,none⟩))) (hl:l.length≤1000000) :
    Calls D8 136 #[.iface 168 (.pointer (some ⟨p,0,none⟩))] c.w fun en w'=>∃ c' z,en=.returned z∧c'.w=w'∧St c c'∧VR c' (.slv 2 ((jF l).map cC)) z:=by
  have har:ARel c [.iface 168 (.ptr 2 0 0)] #[.iface 168 (.pointer (some ⟨p,0,none⟩))]:=⟨rfl,fun i x hi=>by
    cases i with
    | zero=>simp at hi; subst hi; exact .iface _ _ _ h10
    | succ i=>simp at hi⟩
  cases l with
  | nil =>
    refine (DY.2 c h6 h8 (fun n hn=>(h9 n hn).2) _ har).mono ?_
    rintro en w' ⟨c1,z,rfl,rfl,g1,g2,g3,g4,g5⟩
    exact ⟨c1,z,rfl,rfl,g2,by rw [show jF []=[] from by simp [jF]]; exact Wk.nil 2 _ _ g5⟩
  | cons d l =>
    refine ((JR (l:=d :: l) rfl (by simp) hl).2 c h6 h8 (fun n hn=>(h9 n hn).2) _ har).mono ?_
    rintro en w' ⟨c1,z,rfl,rfl,g1,g2,g3,g4,g5⟩
    exact ⟨c1,z,rfl,rfl,g2,by rw [← Ln]; exact g5⟩
theorem Eg {seen:Array Nat} {e:MapEntry}:∀ {L:List MapEntry},(L.map (·.born)).Nodup→e∈L→seen.contains e.born=false→(L.filter fun x=>(seen.push e.born).contains x.born).Perm (e :: L.filter fun x=>seen.contains x.born)
  | x :: L,hn,he,hs=>by
    have hn':x.born∉L.map (·.born)∧(L.map (·.born)).Nodup:=List.nodup_cons.1 hn
    by_cases hx:x=e
    · subst hx
      have h1:(L.filter fun y=>(seen.push x.born).contains y.born)=L.filter fun y=>seen.contains y.born:=List.filter_congr fun y hy=>by
        have:y.born≠x.born:=fun e=>hn'.1 (e ▸ G5.2 ⟨y,hy,rfl⟩)
        simp [V1,this]
      simp only [R8,hs,Bool.false_eq_true,if_false,V1,beq_self_eq_true,Bool.or_true,if_true]
      simp only [V1] at h1
      rw [h1]
    · have he':e∈L:=by
        rcases List.mem_cons.1 he with h | h
        · exact absurd h.symm hx
        · exact h
      have hb:x.born≠e.born:=fun h=>hn'.1 (h ▸ G5.2 ⟨e,he',rfl⟩)
      have ih:=Eg (seen:=seen) hn'.2 he' hs
      have hc:(seen.push e.born).contains x.born=seen.contains x.born:=by simp [V1,hb]
      simp only [R8,hc]
      split
      · exact (ih.cons x).trans (List.Perm.swap e x _)
      · exact ih
theorem kP {w:World} {a:Addr} {v:Value} (h:w.cell? a=some v):a.block<w.heap.size:=by
  unfold World.cell? at h
  cases hh:w.heap[a.block]? with
  | none=>rw [hh] at h; cases h
  | some o=>exact (H0.1 hh).1
theorem Ta (w:World) (bm clk:Nat) (ents:Array MapEntry) (hb:w.heap[bm]?=some (.map ents clk)) (hS:Stmp ents clk) (hn:ents.size≤100000) (val:MapEntry→Due) (hv:∀ e,e∈ents.toList→e.val=dv (val e)∧sF .i64 (val e).tm∧sF .i64 (val e).id) (R:Ending→World→Prop) (hR:∀ (c':Ctx) z,St (KY w) c'→VR c' (.slv 2 ((jF (ents.toList.map val)).map cC)) z→R (.returned z) c'.w):Calls D8 88 #[.map (some bm)] w R:=by
  refine calls_of_wp Tryz.func88 rfl ?_
  simp only [Tryz.ntmps88,List.size_toArray,List.length_cons,L7,Nat.reduceAdd,Nat.reduceSub,Array.replicate_succ,Array.replicate_zero,List.push_toArray,List.append_toArray,List.nil_append,List.cons_append]
  have hlt:bm<w.heap.size:=(H0.1 hb).1
  have hr:=run_range_map (P:=D8) ((w.alloc (.cells #[] 51)).alloc (.cells #[.slice (some ⟨w.heap.size,0,none⟩) 0 0] 169)) 128 3 51 bm ents clk Tryz.underlying128 (by rw [heap_alloc_old _ _ (by simp; omega),heap_alloc_old _ _ hlt]; exact hb)
  have hs:((w.alloc (.cells #[] 51)).alloc (.cells #[.slice (some ⟨w.heap.size,0,none⟩) 0 0] 169)).heap.size=w.heap.size+2:=by simp
  rw [hs] at hr
  clear hs
  go_wp2
  clear hr
  refine wp_loop_ghost (HS w bm clk (w.heap.size+2) (w.heap.size+1) ents val) ents.size (Md hb _ _ _ _ _ _ _ _ _ _ _ _ _ _ _ _ _ _ _ _) ?_
  rintro k a W ⟨seen,ck,l,c,h1,h2,h3,h4,h5,h6,h7,h8,h9,h10,h11,h12,t0,t1,t2,t4,t5,t6,t7,t8,t10,t11,t12,t13,t14,t15,t16,t17,t18,t19,t20,t21,rfl⟩
  have hll:l.length≤100000:=by
    have e1:l.length≤ents.size:=by
      rw [h12.length_eq,List.length_map]
      exact List.length_filter_le _ _
    omega
  obtain ⟨r,hr0⟩:∃ r,r=w.heap.size+2:=⟨_,rfl⟩
  rw [← hr0] at h3 h11 ⊢
  have hr1:w.heap.size≤r:=by omega
  clear hr0
  generalize w.heap.size+1=p at *
  rcases run_next_at (P:=D8) W 0 r bm clk ck seen ents clk h3 h4 (fun x hx=>hS.1 _ (G5.2 ⟨x,hx,rfl⟩)) h2 with ⟨hz,hrun⟩ | ⟨e,he,w1,hw1,hrun⟩
  · have A:Aside ((leftOf ents seen).size=0):=hz
    clear h3 h4 hb hz
    go_wp2_with fail
    refine (h5 ▸ Sx h6 h8 h9 h10 (by omega):Calls D8 136 _ W _).mono ?_
    rintro en w' ⟨c',z,rfl,rfl,q1,q2⟩
    have B:Aside (St (KY w) c'∧VR c' (.slv 2 ((jF (ents.toList.map val)).map cC)) z):=⟨h7.trans q1,by
      have hp:l.Perm (ents.toList.map val):=by
        have:=h12
        rwa [List.filter_eq_self.2 (fun x hx=>all_seen ents seen A.out x hx)] at this
      rw [← Ic hp]; exact q2⟩
    clear q1 q2 h6 h7 h8 h9 h10 h11 h12 hll hr1
    go_wp2
    exact hR c' z B.out.1 B.out.2
  · have he2:=mem_left he
    obtain ⟨hv1,hv2⟩:=hv e he2.1
    obtain ⟨W2,hW2⟩:∃ W2,setBlock w1 r (.mapIter (some bm) clk (seen.push e.born) clk)=W2:=⟨_,rfl⟩
    have hne:r≠bm:=by rintro rfl; rw [h3] at h4; cases h4
    have hb2:W2.heap=W.heap.setIfInBounds r (.mapIter (some bm) clk (seen.push e.born) clk):=by rw [← hW2]; rcases hw1 with rfl | rfl <;> rfl
    have hr2:W2.heap[r]?=some (.mapIter (some bm) clk (seen.push e.born) clk):=by rw [hb2,Array.getElem?_setIfInBounds_self_of_lt (H0.1 h3).1]
    have hm2:W2.heap[bm]?=some (.map ents clk):=by rw [hb2,O0 hne]; exact h4
    have hent:=run_entry_at (P:=D8) W2 r bm clk seen ents clk e hr2 hm2 he2.1 hS.2
    have ho2:∀ b,b≠r→W2.heap[b]?=W.heap[b]?:=fun b hb=>by rw [hb2,O0 (Ne.symm hb)]
    have hs2:W2.heap.size=W.heap.size:=by rw [hb2]; simp
    have hw2:W2.os=W.os∧W2.tape=W.tape∧W2.output=W.output:=by rw [← hW2]; rcases hw1 with rfl | rfl <;> exact ⟨rfl,rfl,rfl⟩
    have hc2:∀ a v,W.cell? a=some v→W2.cell? a=some v:=fun a v h=>by
      by_cases e:a.block=r
      · exfalso; rw [World.cell?,e,h3] at h; cases h
      · exact (World.cell?_of_block (ho2 _ e)).trans h
    have A:Aside (W.heap[r]?=some (.mapIter (some bm) clk seen ck)∧W.heap[bm]?=some (.map ents clk)∧W2.heap[r]?=some (.mapIter (some bm) clk (seen.push e.born) clk)∧W2.heap[bm]?=some (.map ents clk)∧(∀ b,b≠r→W2.heap[b]?=W.heap[b]?)∧W2.heap.size=W.heap.size∧(W2.os=W.os∧W2.tape=W.tape∧W2.output=W.output) ∧
      (∀ a v,W.cell? a=some v→W2.cell? a=some v)∧(c.w=W)∧r≠bm∧(k=(leftOf ents seen).size)):=⟨h3,h4,hr2,hm2,ho2,hs2,hw2,hc2,h5,hne,h1⟩
    rw [hW2] at hrun
    rw [hv1] at hrun hent
    unfold dv at hrun hent
    clear hW2 h1 h3 h4 h5 hb hr2 hm2 hb2 ho2 hs2 hw2 hc2 hw1 hne
    go_wp2_with fail
    obtain ⟨h3,h4,hr2,hm2,ho2,hs2,hw2,hc2,h5,hne,h1⟩:=A.out
    clear A hrun hent
    have hrl:r<W.heap.size:=(H0.1 h3).1
    have hbl:bm<W.heap.size:=(H0.1 h4).1
    have ha:∀ b,b<W.heap.size→(W2.alloc (.cells #[.int .i64 (val e).tm,.int .i64 (val e).id] 51)).heap[b]?=W2.heap[b]?:=fun b hb=>heap_alloc_old _ _ (by omega)
    have hown:∀ b,c.own b→b<W.heap.size:=by rintro b ⟨g,hg,rfl⟩; rw [← h5]; exact h6.lt g hg
    have hcell:∀ a v,c.w.cell? a=some v→(W2.alloc (.cells #[.int .i64 (val e).tm,.int .i64 (val e).id] 51)).cell? a=some v:=fun a v h=>by
      rw [h5] at h
      exact (World.cell?_of_block (ha _ (kP h))).trans (hc2 a v h)
    have g6:=h6.turn (w':=W2.alloc (.cells #[.int .i64 (val e).tm,.int .i64 (val e).id] 51)) (by rw [h5]; simp; omega) hcell (fun b hb=>by rw [ha b (hown b hb),h5]; exact ho2 b (fun e=>h11 (e ▸ hb)))
    have hs7:w.heap.size≤W.heap.size:=by have:=h7.size; rw [h5] at this; exact this
    have hbn:¬ c.own bm:=fun ho=>by obtain ⟨g,hg,_⟩:=h7.own bm hlt ho; cases hg
    have hsz4:(W2.alloc (.cells #[.int .i64 (val e).tm,.int .i64 (val e).id] 51)).heap.size=W.heap.size+1:=by simp [hs2]
    refine (Sr (w:=w) (c:={ c with w:=W2.alloc (.cells #[.int .i64 (val e).tm,.int .i64 (val e).id] 51) }) (l:=l) (d:=val e) (p:=p) g6 (h7.turn (by rw [h5]; exact hw2.1) (by rw [h5]; exact hw2.2.1) (by rw [h5]; exact hw2.2.2) (by rw [h5,hsz4]; omega) (fun b hb=>by
      have hb':b<w.heap.size:=hb
      rw [ha b (by omega),h5]; exact ho2 b (by omega))) h8 h9 (h10.turn (by rw [h5,hsz4]; omega) hcell) hll hv2).mono ?_
    rintro en w' ⟨c',l',rfl,rfl,q1,q2,q3,q4,q5,q6,q7,q8⟩
    have B:Aside (c'.w.heap[r]?=some (.mapIter (some bm) clk (seen.push e.born) clk)∧c'.w.heap[bm]?=some (.map ents clk)∧¬ c'.own r):=⟨(q8 r (by rw [show ({ c with w:=W2.alloc (.cells #[.int .i64 (val e).tm,.int .i64 (val e).id] 51) }:Ctx).w.heap.size=W.heap.size+1 from hsz4]; omega) h11).trans ((ha r hrl).trans hr2),(q8 bm (by rw [show ({ c with w:=W2.alloc (.cells #[.int .i64 (val e).tm,.int .i64 (val e).id] 51) }:Ctx).w.heap.size=W.heap.size+1 from hsz4]; omega) hbn).trans ((ha bm hbl).trans hm2),fun ho=>h11 (q7 r (by rw [show ({ c with w:=W2.alloc (.cells #[.int .i64 (val e).tm,.int .i64 (val e).id] 51) }:Ctx).w.heap.size=W.heap.size+1 from hsz4]; omega) ho)⟩
    have C:Aside ((leftOf ents (seen.push e.born)).size<k):=by rw [h1]; exact left_shrinks _ _ _ he
    have D:Aside (l'.Perm ((ents.toList.filter fun x=>(seen.push e.born).contains x.born).map val)):=(q6.trans (h12.cons _)).trans ((Eg hS.2 he2.1 he2.2).map val).symm
    clear h1 h2 h3 h4 hr2 hm2 ho2 hs2 hw2 hc2 h5 hne hrl hbl ha hown hcell g6 hs7 hbn hsz4 hv1 hv2 hv h12 h11 h10 h9 h8 h7 h6 q7 q8 q6 hll
    go_wp2
    obtain ⟨b1,b2,b3⟩:=B.out
    exact ⟨_,C.out,seen.push e.born,clk,l',c',rfl,G1 _,b1,b2,rfl,q1,q2,q3,q4,q5,b3,D.out,_,_,_,_,_,_,_,_,_,_,_,_,_,_,_,_,_,_,_,_,rfl⟩
theorem RD {c:Ctx} {d:Due} {v:Value} (h:VR c (.agg (cC d)) v):v=dv d∧sF .i64 d.tm∧sF .i64 d.id:=by
  cases h with
  | agg _ vs h1 h2 h3 =>
    have k1:=h3 0 (.int .i64 d.tm) rfl
    have k2:=h3 1 (.int .i64 d.id) rfl
    have hs:vs.size=2:=h1.symm
    have e:vs=#[vs.getD 0 dB,vs.getD 1 dB]:=by
      apply X6
      · simp [hs]
      · intro i h4 h5
        match i with
        | 0=>simp [h4]
        | 1=>simp [h4]
        | i+2=>simp at h5; omega
    generalize vs.getD 0 dB=a at *
    generalize vs.getD 1 dB=b at *
    cases k1 with
    | int _ _ r1=>cases k2 with
      | int _ _ r2=>subst e; exact ⟨rfl,r1,r2⟩
def lA (d:Due):AV×AV:=(.int .i64 d.id,.agg (cC d))
def HC (e:MapEntry):Due:=match e.val with
  | .agg vs=>match vs.getD 0 dB,vs.getD 1 dB with
    | .int _ a,.int _ b=>⟨a,b⟩
    | _,_=>default
  | _=>default
theorem Pg {e:MapEntry} {d:Due} (h:e.val=dv d):HC e=d:=by unfold HC; rw [h]; rfl
theorem OI {g b:Nat} {ds:List Due} (hl:ds.length≤100000):sD D8 88 [.mapm g] (.slv 2 ((jF ds).map cC),[],[]) (AM.get [(g,.mp (ds.map lA))]) b:=by
  refine ⟨⟨_,Tryz.func88,by kernel_rfl,by kernel_rfl⟩,fun c hc hm hU vs hvs=>?_⟩
  have hmg:c.m g=some (.mp (ds.map lA)):=by rw [hm]; simp [AM.get]
  obtain ⟨ents,clk,k1,⟨k2,k3⟩,k4⟩:=hc.mp g _ hmg
  have hv0:=hvs.2 0 _ rfl
  have hvs':vs=#[.map (some (c.ρ g).blk)]:=by
    have hs:vs.size=1:=hvs.1.symm
    have e:vs=#[vs.getD 0 dB]:=by
      apply X6
      · simp [hs]
      · intro i h4 h5
        match i with
        | 0=>simp [h4]
        | i+1=>simp at h5
    generalize vs.getD 0 dB=v at *
    cases hv0 with
    | mapm _ r q1 q2=>rw [e,q2 (by simp [Ctx.L,hmg])]
  have hsz:ents.size=ds.length:=by simpa using k2
  have hat:∀ i (h:i<ents.size),(ents[i]).val=dv (ds.getD i default)∧sF .i64 (ds.getD i default).tm∧sF .i64 (ds.getD i default).id:=fun i h=>by
    have hi:i<ds.length:=by omega
    obtain ⟨e,q1,q2,q3⟩:=k4 i _ _ (by rw [P3,List.getElem?_eq_getElem hi]; rfl)
    rw [M3 h] at q1
    obtain rfl:=Option.some.inj q1
    have:=RD q3
    rwa [show ds.getD i default=ds[i] from by simp [hi]]
  have hmap:ents.toList.map HC=ds:=by
    apply List.ext_getElem
    · simpa using hsz
    · intro i h1 h2
      have hi:i<ents.size:=by simpa using h1
      rw [List.getElem_map,Array.getElem_toList,Pg (hat i hi).1]
      simp [h2]
  rw [hvs']
  refine Ta c.w _ clk ents k1 k3 (by omega) HC (fun e he=>?_) _ (fun c' z q1 q2=>?_)
  · obtain ⟨i,hi,rfl⟩:=List.getElem_of_mem he
    have hi':i<ents.size:=by simpa using hi
    rw [Array.getElem_toList,Pg (hat i hi').1]
    exact hat i hi'
  · rw [hmap] at q2
    have hk:∀ b,b<c.w.heap.size→c'.w.heap[b]?=c.w.heap[b]?:=fun b hb=>q1.keep b hb (by rintro ⟨g,hg,_⟩; cases hg)
    have hcell:∀ a v,c.w.cell? a=some v→c'.w.cell? a=some v:=fun a v h=>(World.cell?_of_block (hk _ (kP h))).trans h
    have hlt:∀ b,c.own b→b<c.w.heap.size:=by rintro b ⟨g,hg,rfl⟩; exact hc.lt g hg
    refine ⟨{ c with w:=c'.w },z,rfl,rfl,hc.turn q1.size hcell (fun b hb=>hk b (hlt b hb)),(St.refl c).turn q1.os q1.tape q1.output q1.size (fun b hb=>hk b hb),by simpa [ups] using hm,fun n hn=>.inr hn,?_⟩
    have hF:c'.F=fun b=>b<c.w.heap.size:=q1.F
    show VR _ (.slv 2 ((jF ds).map cC)) z
    generalize hrw:(jF ds).map cC=rows at q2 ⊢
    cases q2 with
    | slv0=>exact .slv0 _
    | slve _ a cap h=>exact .slve 2 a cap h
    | slvs _ rows a cap us h1 h2 h3 h4 h5 h6 h7 h8 h9 =>
      refine .slvs 2 _ a cap us h1 h2 h3 (fun hB=>h4 (.inl ?_)) h5 h6 h7 h8 (fun i r j x hi hj=>?_)
      · rw [hF]
        rcases hB with hB | hB
        · exact hc.flt _ hB
        · exact hlt _ hB
      · have:=h9 i r j x hi hj
        rw [← hrw,P3,Option.map_eq_some_iff] at hi
        obtain ⟨d,_,rfl⟩:=hi
        cases j with
        | zero=>simp [cC] at hj; subst hj; generalize us i 0=v at this ⊢; cases this with | int _ _ r1=>exact .int _ _ r1
        | succ j=>cases j with
          | zero=>simp [cC] at hj; subst hj; generalize us i (0+1)=v at this ⊢; cases this with | int _ _ r1=>exact .int _ _ r1
          | succ j=>simp [cC] at hj
end Go.Sak
