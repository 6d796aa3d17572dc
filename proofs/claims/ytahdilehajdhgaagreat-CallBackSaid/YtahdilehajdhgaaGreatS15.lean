/- Part S15 of the proofs about the program: Rd, Re. Conditions: none. -/
import Derived.Test.YtahdilehajdhgaaGreatS03
import Derived.Test.YtahdilehajdhgaaGreatProg
import Derived.KernelRfl
import Derived.Shelf.Slices.Delete
import Derived.Test.YtahdilehajdhgaaGreatS14
namespace Go.Sak
open Go Go.RowKit Go.Shelf Go.Proofs Go.Sort
set_option linter.unusedVariables false
set_option linter.unusedSimpArgs false
set_option maxRecDepth 100000
set_option maxHeartbeats 2000000

def ren23:Ren:=⟨fun n=>if n=23 then 138 else n,fun t=>if t=0 then 0 else if t=3 then 3 else if t=4 then 4 else if t=22 then 27 else t,fun n=>n⟩
theorem lays23:Lays2.n23 Tryz.prog ren23 where
  mixed:=by kernel_rfl
  f23:=by kernel_rfl
  t0:=by kernel_rfl
  a0:=fun w=>by kernel_rfl
  z0:=fun w=>by kernel_rfl
  v0:=fun w=>by kernel_rfl
  t3:=by kernel_rfl
  a3:=fun w=>by kernel_rfl
  z3:=fun w=>by kernel_rfl
  v3:=fun w=>by kernel_rfl
  t4:=by kernel_rfl
  a4:=fun w=>by kernel_rfl
  z4:=fun w=>by kernel_rfl
  v4:=fun w=>by kernel_rfl
  t22:=by kernel_rfl
  a22:=fun w=>by kernel_rfl
  z22:=fun w=>by kernel_rfl
  v22:=fun w=>by kernel_rfl
  i3:=by kernel_rfl

theorem conDel {g B0:Nat} {l:List Int} {i:Nat} {T:TypeId} (hi:i<l.length):MCb Tryz.prog 138 [.slm g l.length,.int .i64 (i:Int),.int .i64 ((i:Int)+1)]
    (.slm g (l.length - 1),[(g,some (.rows T 1 ((l.eraseIdx i).map encI)))],[g]) (AM.get [(g,.rows T 1 (l.map encI))]) B0:=by
  refine ⟨⟨_,Tryz.func138,by kernel_rfl,by kernel_rfl⟩,fun c hc hm hU vs hvs=>?_⟩
  have hmg:c.m g=some (.rows T 1 (l.map encI)):=by rw [hm]; simp [AM.get]
  have hL:c.L g:=by simp [Ctx.L,hmg]
  obtain ⟨cs,h1,h2,h3,h4,h5,h7⟩:=hc.rows g T 1 _ hmg
  have e0:vs.getD 0 undv=.slice (some ⟨(c.ρ g).blk,0,none⟩) l.length (c.ρ g).cap:=by
    have:=hvs.2 0 _ rfl
    generalize vs.getD 0 undv=v at this
    cases this with
    | slm _ _ a n cap q1 q2=>obtain ⟨rfl,rfl,rfl⟩:=q2 hL; rfl
  have e1:vs.getD 1 undv=.int .i64 (i:Int):=by
    have:=hvs.2 1 _ rfl
    generalize vs.getD 1 undv=v at this
    cases this; rfl
  have e2:vs.getD 2 undv=.int .i64 ((i+1:Nat):Int):=by
    have:=hvs.2 2 _ rfl
    generalize vs.getD 2 undv=v at this
    cases this; simp
  have hsz:vs.size=3:=by simpa using hvs.1.symm
  have hvs':vs=#[.slice (some ⟨(c.ρ g).blk,0,none⟩) l.length (c.ρ g).cap,.int .i64 (i:Int),.int .i64 ((i+1:Nat):Int)]:=by
    apply Array.ext
    · simp [hsz]
    · intro k hk1 hk2
      have hg:∀ (k:Nat) (h:k<vs.size),vs[k]=vs.getD k undv:=fun k h=>by simp [h]
      rw [hg k hk1]
      match k with
      | 0=>rw [e0]; rfl
      | 1=>rw [e1]; rfl
      | 2=>rw [e2]; rfl
      | k+3=>simp at hk2; omega
  have hcell:∀ j (hj:j<l.length),cs[j]?=some (.int .i64 l[j]):=by
    intro j hj
    have:=(h7 j [.int .i64 l[j]] (by simp [encI,hj])).2 0 _ rfl
    have h8:=this.2
    have hjc:j<cs.size:=by simp at h4; omega
    rw [show j * 1+0=j from by omega] at h8
    have hg:cs.getD j undv=cs[j]:=by simp [hjc]
    rw [hg] at h8
    rw [Array.getElem?_eq_getElem hjc]
    generalize cs[j]=v at h8
    cases h8; rfl
  have hH:Holds (Value.int .i64) c.w (c.ρ g).blk 0 l.toArray:=by
    intro j hj
    have hj':j<l.length:=by simpa using hj
    refine ⟨?_,?_⟩
    · simp only [World.cell?,h1,Nat.zero_add]
      rw [hcell j hj']
      simp [hj']
    · simp [World.frozen?,h1]
  have hcl:(l.map encI).length=l.length:=by simp
  have hd:=Any.slices_Delete_int lays23 (c.ρ g).blk 0 (c.ρ g).cap i (i+1) l c.w hH (by omega) (by simpa [maxLen] using h5) (by omega) (by omega)
  rw [hvs']
  refine Calls.mono (show Calls Tryz.prog 138 _ _ _ from hd) ?_
  rintro en w' ⟨rfl,q,rfl⟩
  have hlt:=hc.lt g hL
  have hel:l.take i ++ l.drop (i+1)=l.eraseIdx i:=(List.eraseIdx_eq_take_drop_succ l i).symm
  have hlen:(l.eraseIdx i).length=l.length - 1:=by rw [List.length_eraseIdx,if_pos hi]
  obtain ⟨gd,st⟩:=hc.write (g:=g) (b:=.rows T 1 ((l.eraseIdx i).map encI)) hmg (o:=.cells (putCells (Value.int .i64) 0 (l.take i ++ l.drop (i+1) ++ List.replicate (i+1 - i) 0).toArray cs) T (0,0))
    (w':=putRow (Value.int .i64) (Sort.ahead c.w q) (c.ρ g).blk 0 (l.take i ++ l.drop (i+1) ++ List.replicate (i+1 - i) 0).toArray) rfl rfl rfl
    (by simp [putRow,mapBlock,Sort.ahead]) (by simp [putRow,mapBlock,Sort.ahead,Array.getElem?_modify,h1,onCells]) (fun k hk hne=>by simp [putRow,mapBlock,Sort.ahead,Array.getElem?_modify,Ne.symm hne]) (by
      refine ⟨_,rfl,h2,by simp [putCells,h3],by simp [hlen]; simp at h4; omega,h5,fun k r hr=>?_⟩
      rw [List.getElem?_map,Option.map_eq_some_iff] at hr
      obtain ⟨x,hx,rfl⟩:=hr
      refine ⟨rfl,fun j y hy=>?_⟩
      match j with
      | j+1=>simp [encI] at hy
      | 0 =>
        simp [encI] at hy; subst hy
        have hkl:k<(l.eraseIdx i).length:=(List.getElem?_eq_some_iff.1 hx).1
        have hkc:k<cs.size:=by simp at h4; omega
        refine ⟨rfl,?_⟩
        have:(putCells (Value.int .i64) 0 (l.take i ++ l.drop (i+1) ++ List.replicate (i+1 - i) 0).toArray cs).getD (k * 1+0) undv=.int .i64 x:=by
          have hdl:(l.take i ++ l.drop (i+1) ++ List.replicate (i+1 - i) 0).toArray.size=l.length:=by simp; omega
          have hk1:k<(l.take i ++ l.drop (i+1) ++ List.replicate (i+1 - i) 0).toArray.size:=by rw [hdl]; omega
          simp only [putCells,Nat.mul_one,Nat.add_zero,Array.getD_eq_getD_getElem?,Array.getElem?_mapIdx,Array.getElem?_eq_getElem hkc,Option.map_some,Option.getD_some]
          rw [if_pos ⟨Nat.zero_le _,by omega⟩,Nat.sub_zero,getElem!_pos _ k hk1]
          rw [List.getElem_toArray,List.getElem_append_left (by rw [hel]; exact hkl)]
          have:=(List.getElem?_eq_some_iff.1 hx).2
          rw [← this]
          congr 1
          simp only [hel]
        rw [this]
        have hxl:x∈l:=List.mem_of_mem_eraseIdx (List.mem_of_getElem? hx)
        obtain ⟨j,hj,hjx⟩:=List.getElem_of_mem hxl
        have h8:=((h7 j [.int .i64 l[j]] (by simp [encI,hj])).2 0 _ rfl).2.wf
        rw [hjx] at h8
        exact .int _ _ h8)
  refine ⟨_,_,rfl,rfl,gd,st,by rw [hm]; rfl,fun n hn=>.inr hn,?_⟩
  exact .slm g _ _ _ _ (hc.used g hL) (fun _=>⟨rfl,by omega,rfl⟩)

theorem conDel2 {g B0:Nat} {l:List Int} {n:Nat} {i j:Int} {T:TypeId} (hi:0≤i∧i<l.length) (hn:n=l.length) (hj:j=i+1):MCb Tryz.prog 138 [.slm g n,.int .i64 i,.int .i64 j]
    (.slm g (l.length - 1),[(g,some (.rows T 1 ((l.eraseIdx i.toNat).map encI)))],[g]) (AM.get [(g,.rows T 1 (l.map encI))]) B0:=by
  obtain ⟨k,rfl⟩:=Int.eq_ofNat_of_zero_le hi.1
  subst hn; subst hj
  exact conDel (by omega)
end Go.Sak
namespace Go.Sak
open Go Go.RowKit Go.Shelf Go.Proofs
attribute [local go_sem] Oper.semAt_some
set_option linter.unusedVariables false
set_option linter.unusedSimpArgs false
set_option maxRecDepth 100000
set_option maxHeartbeats 4000000

theorem cell_nw (W:World) (v:Value) (t:TypeId):(W.alloc (.cells #[v] t)).cell? ⟨W.heap.size,0,none⟩=some v∧(W.alloc (.cells #[v] t)).frozen? ⟨W.heap.size,0,none⟩=false:=by
  have h:=World.alloc_heap_new W (.cells #[v] t)
  exact ⟨by unfold World.cell?; rw [h]; rfl,by unfold World.frozen?; rw [h]; rfl⟩
theorem check_calls (c:Config) (w:World):Calls Tryz.prog 76 #[.agg (cvs c)] w fun e W'=>e=.returned (.int .i64 (confCheck c))∧Below w.heap.size w W':=by
  refine (callsIn_wide (n:=5)).1 ?_
  refine callsIn_of_wp_marks Tryz.func76 rfl trivial ?_ rfl
  simp only [Tryz.ntmps76,cvs,List.size_toArray,List.length_cons,List.length_nil,Nat.reduceAdd,Nat.reduceSub,Array.replicate_succ,Array.replicate_zero,List.push_toArray,List.append_toArray,List.nil_append,List.cons_append]
  gi_wp2
  have hs:=cell_nw (w.alloc (.cells (cvs c) 23)) (.int .i64 0) 36
  rw [World.size_alloc] at hs
  have hB0:Below w.heap.size w ((w.alloc (.cells (cvs c) 23)).alloc (.cells #[.int .i64 0] 36)):=((Below.refl _ w).alloc (Nat.le_refl _) _).alloc (by simp) _
  let I:Int→World→Prop:=fun v W=>W.cell? ⟨w.heap.size+1,0,none⟩=some (.int .i64 v)∧W.frozen? ⟨w.heap.size+1,0,none⟩=false∧Below w.heap.size w W
  have hIp:∀ v W k o o',I v W→w.heap.size+2≤k→W.heap[k]?=some o→o.isCells=false→I v (W.putObj k o'):=fun v W k o o' h hk ho hc =>
    ⟨cell_kept h.1 (grownBy_putObj' W k o') (fun r e=>by cases e; exact ⟨o,ho,hc⟩),(frozen_kept h.1 (grownBy_putObj' W k o') (fun r e=>by cases e; exact ⟨o,ho,hc⟩)).trans h.2.1,h.2.2.trans ⟨rfl,rfl,rfl,by simp,fun i hi=>World.putObj_heap_other (by omega)⟩⟩
  have hIa:∀ v W o,I v W→I v (W.alloc o):=fun v W o h=>⟨cell_al _ h.1,(frozen_kept h.1 (World.grownBy_alloc W o none) (fun r e=>by cases e)).trans h.2.1,h.2.2.alloc h.2.2.size _⟩
  have hId:∀ v W,I v W→I v W.drew:=fun v W h=>⟨h.1,h.2.1,h.2.2.drew⟩
  have hsz:((w.alloc (.cells (cvs c) 23)).alloc (.cells #[.int .i64 0] 36)).heap.size=w.heap.size+2:=by simp
  simp only [cvs] at hs hB0 hsz
  refine range_m (n:=5) (by omega) (gf:=127) (fst:=#[.agg (cvs c)]) rfl (enters_of Tryz.func127 (by kernel_rfl) rfl) (α:=Int×Int×Int) (fun x=>#[.int .i64 x.1,.agg #[.int .i64 x.2.1,.int .i64 x.2.2]]) (fun x=>within x.1 x.2.1 x.2.2) (confOk c) (fun _=>rfl) (I 0) (I 20)
    (fun x a1 W=>∃ S,W.cell? ⟨S,0,none⟩=some (.int .i64 x.2.1)∧W.cell? ⟨S,1,none⟩=some (.int .i64 x.2.2)∧I 0 W ∧
      a1 = { tmps:=#[.agg (cvs c),.pointer (some ⟨w.heap.size,0,none⟩),.pointer (some ⟨w.heap.size+1,0,none⟩),.func (.func 127) #[.agg (cvs c)] #[],.int .i64 x.1,.pointer (some ⟨S,0,none⟩),.agg (cvs c),.func (.func 127) #[.agg (cvs c)] #[],.func (.func 127) #[.agg (cvs c)] #[],
        .int .i64 x.1,.agg #[.int .i64 x.2.1,.int .i64 x.2.2],undef,undef,undef,undef,undef,undef,undef,undef,undef,undef],defers:=[] })
    (fun W k o o' h hk=>hIp 0 W k o o' h (by rw [hsz] at hk; exact hk)) (fun W k o o' h hk=>hIp 20 W k o o' h (by rw [hsz] at hk; exact hk)) ?hA (hIa 0) (hId 0) ⟨hs.1,hs.2,hB0⟩ ?assign ?body ?it ?done ?stop
  case hA =>
    rintro x a' W k o o' ⟨S,q1,q2,q3,q4⟩ hk ho hc
    rw [hsz] at hk
    exact ⟨S,cell_kept q1 (grownBy_putObj' W k o') (fun r e=>by cases e; exact ⟨o,ho,hc⟩),cell_kept q2 (grownBy_putObj' W k o') (fun r e=>by cases e; exact ⟨o,ho,hc⟩),hIp 0 W k o o' q3 hk ho hc,q4⟩
  case assign =>
    intro l x W hI hle K hK
    simp only [cvs] at hK
    gi_wp2
    have hn:=World.alloc_heap_new W (.cells #[.int .i64 x.2.1,.int .i64 x.2.2] 156)
    exact hK _ _ ⟨by simp,fun k h1 h2=>Below.heap_alloc W _ k h2⟩ ⟨W.heap.size,by unfold World.cell?; rw [hn]; rfl,by unfold World.cell?; rw [hn]; rfl,hIa _ _ _ hI,rfl⟩
  case body =>
    rintro l x a1 W ⟨S,q1,q2,⟨q3,q5,q6⟩,rfl⟩
    simp only [cvs]
    rw [hsz]
    have hk:KF (w.heap.size+2) W (W.setCell ⟨w.heap.size+1,0,none⟩ (.int .i64 20)):=⟨by simp,fun k h1 _=>Below.heap_setCell W ⟨w.heap.size+1,0,none⟩ _ k (by simp; omega)⟩
    have hi:I 20 (W.setCell ⟨w.heap.size+1,0,none⟩ (.int .i64 20)):=⟨World.cell?_setCell_same' _ _ _ (by rw [q3]; rfl),by rw [World.frozen?_setCell]; exact q5,q6.setCell (p:=⟨w.heap.size+1,0,none⟩) (by simp) _⟩
    gi_wp2
    · exact ⟨by simp [within]; omega,hi⟩
    · exact ⟨⟨Nat.le_refl _,fun _ _ _=>rfl⟩,by simp [within]; omega,q3,q5,q6⟩
    · exact ⟨by simp [within]; omega,hi⟩
  case it =>
    intro l W Rd Dn hal hdr hY h0
    refine CallsIn.mono (bounds_in (5 - 1) (by omega) c l W (fun V=>Rd V∧W.heap.size<V.heap.size+1) Dn (fun V o h=>⟨hal _ _ h.1,by have:=h.2; simp; omega⟩) (fun V h=>⟨hdr _ h.1,h.2⟩) (fun x lo hi V hV hb=>?_) ⟨h0,Nat.lt_succ_self _⟩) (fun e W' h=>⟨h.1,?_⟩)
    · have hy:=hY (x,lo,hi) V hV.1 (by have:=hV.2; omega)
      have hlt:W.heap.size<V.heap.size:=by
        obtain ⟨ob,hob,_⟩:=cells_of_cell hb.1
        exact (Array.getElem?_eq_some_iff.1 hob).1
      refine ⟨fun hw=>hy.mono ?_,fun hw=>hy.mono ?_⟩
      · rintro e W' ⟨hk,⟨q1,q2,q3⟩ | ⟨q1,_⟩⟩
        · exact ⟨q2,⟨q3,by have:=hk.1; omega⟩,hb.keep (hk.2 _ (Nat.le_refl _) hlt)⟩
        · simp only [] at q1; rw [hw] at q1; cases q1
      · rintro e W' ⟨hk,⟨q1,_⟩ | ⟨q1,q2,q3⟩⟩
        · simp only [] at q1; rw [hw] at q1; cases q1
        · exact ⟨q2,q3⟩
    · have:=h.2
      split <;> rename_i hc
      · rw [if_pos hc] at this; exact this.1
      · rw [if_neg hc] at this; exact this
  case done =>
    rintro W hf ⟨hc,hfr,hB⟩ hK
    rw [hsz] at hK
    rw [hsz]
    gi_wp2
    have hK':=(KeepsOthers.setCell W ⟨w.heap.size+1,0,none⟩ (.int .i64 0)).same _ _ hK rfl
    refine ⟨by simp,.inl ⟨_,_,rfl,run_takeDeferred hK',?_⟩⟩
    have hc5:=cell_kept (World.cell?_setCell_same' W ⟨w.heap.size+1,0,none⟩ (.int .i64 0) (by rw [hc]; rfl)) (grownBy_putObj' _ (w.heap.size+2) (.deferred none)) (fun r e=>by cases e; exact ⟨_,hK',rfl⟩)
    refine ⟨.int .i64 0,?_,by simp [confCheck,hf],(hB.setCell (p:=⟨w.heap.size+1,0,none⟩) (by simp) _).trans ⟨rfl,rfl,rfl,by simp,fun i hi=>World.putObj_heap_other (by omega)⟩⟩
    simp [results,Tryz.f76,go_sem,hc5]
  case stop =>
    rintro W hf ⟨hc,hfr,hB⟩ hK
    rw [hsz] at hK
    rw [hsz]
    gi_wp2
    refine ⟨by simp,.inl ⟨_,_,rfl,run_takeDeferred hK,?_⟩⟩
    have hc5:=cell_kept hc (grownBy_putObj' _ (w.heap.size+2) (.deferred none)) (fun r e=>by cases e; exact ⟨_,hK,rfl⟩)
    refine ⟨.int .i64 20,?_,by simp [confCheck,hf],hB.trans ⟨rfl,rfl,rfl,by simp,fun i hi=>World.putObj_heap_other (by omega)⟩⟩
    simp [results,Tryz.f76,go_sem,hc5]

theorem Gd.grow {c:Ctx} (h:Gd c) {w':World} (hb:Below c.w.heap.size c.w w'):Gd { c with w:=w' }∧St c { c with w:=w' }:=by
  have hs:St c { c with w:=w' }:=⟨hb.os,hb.tape,hb.output,hb.size,fun b hl _=>hb.block b hl,rfl,fun _ _ e=>e,fun _ e=>e,fun _ _ e=>⟨e,rfl⟩⟩
  refine ⟨Gd.mk' (fun n hn=>Nat.lt_of_lt_of_le (h.lt n hn) hb.size) h.inj h.notF h.used (fun g b hm=>?_) (fun i hi=>Nat.lt_of_lt_of_le (h.flt i hi) hb.size),hs⟩
  obtain ⟨o,h1,h2⟩:=h.blk hm
  exact ⟨o,(hb.block _ (h.lt g (by simp [Ctx.L,show c.m g=some b from hm]))).trans h1,h2.mono hs⟩
theorem con_of_calls {P:Program} {f:FuncId} {args:List AV} {v:AV} (hcal:Callable P f) (h:∀ c vs,Gd c→ARel c args vs→∃ z,Calls P f vs c.w (fun e W'=>e=.returned z∧Below c.w.heap.size c.w W')∧∀ c',VR c' v z):Con P f args (v,[],[]):=by
  refine ⟨hcal,fun c hc hm hU vs hvs=>?_⟩
  obtain ⟨z,h1,h2⟩:=h c vs hc hvs
  refine h1.mono ?_
  rintro e W' ⟨rfl,hb⟩
  obtain ⟨g,s⟩:=hc.grow hb
  exact ⟨{ c with w:=W' },z,rfl,rfl,g,s,hm,fun n hn=>.inr hn,h2 _⟩
theorem cvs_of {c:Ctx} {k:Config} {v:Value} (h:VR c (.agg (encC k)) v):v=.agg (cvs k):=by
  cases h with
  | agg _ us h1 h2 h3 =>
    have hi:∀ (i:Nat) (q:IntKind) (n:Int),(encC k)[i]?=some (.int q n)→us.getD i undv=.int q n:=fun i q n he=>by
      have:=h3 i _ he
      generalize us.getD i undv=u at this
      cases this; rfl
    have hb:us.getD 6 undv=.bool k.single:=by
      have:=h3 6 (.bool k.single) rfl
      generalize us.getD 6 undv=u at this
      cases this; rfl
    have hsz:us.size=7:=by simpa [encC] using h1.symm
    congr 1
    apply Array.ext
    · simp [hsz,cvs]
    · intro i hi1 hi2
      have hg:us[i]=us.getD i undv:=by simp [hi1]
      rw [hg]
      match i with
      | 0=>rw [hi 0 .i64 k.lg rfl]; rfl
      | 1=>rw [hi 1 .i64 k.th rfl]; rfl
      | 2=>rw [hi 2 .i64 k.pol rfl]; rfl
      | 3=>rw [hi 3 .i64 k.wt rfl]; rfl
      | 4=>rw [hi 4 .i64 k.spin rfl]; rfl
      | 5=>rw [hi 5 .i64 k.yld rfl]; rfl
      | 6=>rw [hb]; rfl
      | i+7=>simp [cvs] at hi2; omega
theorem conConfCheck (k:Config):Con Tryz.prog 76 [.agg (encC k)] (.int .i64 (confCheck k),[],[]):=by
  refine con_of_calls ⟨_,Tryz.func76,by kernel_rfl,by kernel_rfl⟩ fun c vs hc hvs=>⟨.int .i64 (confCheck k),?_,fun c'=>.int _ _ (by unfold confCheck; split <;> decide)⟩
  have h0:=cvs_of (hvs.2 0 _ rfl)
  have hsz:vs.size=1:=by simpa using hvs.1.symm
  have hv:vs=#[.agg (cvs k)]:=by
    apply Array.ext
    · simp [hsz]
    · intro i h1 h2
      have:i=0:=by simp at h2; omega
      subst this
      rw [← h0]; simp [h1]
  rw [hv]
  exact check_calls k c.w
theorem con76 {c_lg c_th c_pol c_wt c_spin c_yld:Int} {c_single:Bool}:Con Tryz.prog 76 [.agg [.int .i64 c_lg,.int .i64 c_th,.int .i64 c_pol,.int .i64 c_wt,.int .i64 c_spin,.int .i64 c_yld,.bool c_single]] (.int .i64 (confCheck ⟨c_lg,c_th,c_pol,c_wt,c_spin,c_yld,c_single⟩),[],[]):=conConfCheck ⟨c_lg,c_th,c_pol,c_wt,c_spin,c_yld,c_single⟩
end Go.Sak
