/- Part T113 of the proofs about the program: Rl, Rm, Ro. Conditions: none. -/
import Derived.Test.YtahdilehajdhgaaGreatT112
import Derived.Test.YtahdilehajdhgaaGreatT107
import Derived.OneCell
open Go.Sak.AV renaming pure→H3
open Bool renaming and_eq_true→D9
open Nat renaming le_refl→G1,lt_of_lt_of_le→H5
namespace Go.Sak
open Go Go.RowKit Go.Shelf Go.Proofs
attribute [local go_sem] Oper.semAt_some
set_option linter.unusedVariables false
set_option linter.unusedSimpArgs false
set_option maxRecDepth 100000
set_option maxHeartbeats 4000000


theorem pO {l:List AV} {i:Nat} {x:AV} (h:pures l=true) (hi:l[i]?=some x):x.pure=true:=by
  induction l generalizing i with
  | nil=>simp at hi
  | cons y l ih =>
    simp only [pures,D9] at h
    cases i with
    | zero=>simp at hi; subst hi; exact h.1
    | succ i=>exact ih h.2 (by simpa using hi)
theorem Ss {l:List (List AV)} {i:Nat} {r:List AV} (h:puress l=true) (hi:l[i]?=some r):pures r=true:=by
  induction l generalizing i with
  | nil=>simp at hi
  | cons y l ih =>
    simp only [puress,D9] at h
    cases i with
    | zero=>simp at hi; subst hi; exact h.1
    | succ i=>exact ih h.2 (by simpa using hi)
theorem VR.to {c c':Ctx} (hB:∀ b,b<c.w.heap.size→¬ c.B b→¬ c'.B b) (hsz:c.w.heap.size≤c'.w.heap.size) (hcell:∀ (a:Addr) v,¬ c.B a.block→c.w.cell? a=some v→c'.w.cell? a=some v) {x:AV} {v:Value} (h:VR c x v):x.pure=true→VR c' x v:=by
  induction h with
  | int k n h=>intro _; exact .int k n h
  | bool b=>intro _; exact .bool b
  | str s h=>intro _; exact .str s h
  | nilp=>intro _; exact .nilp
  | ptr g row off a h1 h2=>intro hp; simp [H3] at hp
  | pv cells a us h1 h2 h3 h4 h5 ih=>intro hp; simp only [H3] at hp; exact .pv cells a us (hB _ h2 h1) (H5 h2 hsz) (fun i x hi=>hcell _ _ (by rwa [fD]) (h3 i x hi)) h4 (fun i x hi=>ih i x hi (pO hp hi))
  | slnil=>intro _; exact .slnil
  | sle sz a cap h=>intro _; exact .sle sz a cap h
  | slv0 sz=>intro _; exact .slv0 sz
  | slve sz a cap h=>intro _; exact .slve sz a cap h
  | slvs sz rows a cap us h1 h2 h3 h4 h5 h6 h7 h8 h9 ih=>intro hp; simp only [H3] at hp; exact .slvs sz rows a cap us h1 h2 h3 (hB _ h5 h4) (H5 h5 hsz) h6 (fun i r j x hi hj=>hcell _ _ (by rwa [fD]) (h7 i r j x hi hj)) h8 (fun i r j x hi hj=>ih i r j x hi hj (pO (Ss hp hi) hj))
  | slm g len a n cap h1 h2=>intro hp; simp [H3] at hp
  | mapnil=>intro _; exact .mapnil
  | mapm g r h1 h2=>intro hp; simp [H3] at hp
  | fn f fs cs vs us h1 h2 h3 h4 ih1 ih2=>intro hp; simp only [H3,D9] at hp; exact .fn f fs cs vs us h1 h2 (fun i x hi=>ih1 i x hi (pO hp.1 hi)) (fun i x hi=>ih2 i x hi (pO hp.2 hi))
  | fnnil=>intro _; exact .fnnil
  | iface t x v h ih=>intro hp; simp only [H3] at hp; exact .iface t x v (ih hp)
  | ifnil=>intro _; exact .ifnil
  | agg cells vs h1 h2 h3 ih=>intro hp; simp only [H3] at hp; exact .agg cells vs h1 h2 (fun i x hi=>ih i x hi (pO hp hi))
  | tup cells vs h1 h2 ih=>intro hp; simp only [H3] at hp; exact .tup cells vs h1 (fun i x hi=>ih i x hi (pO hp hi))
  | und v=>intro _; exact .und v
def Nn (N:Nat) (W:World):Ctx:=⟨fun b=>b<N,fun _=>default,fun _=>False,AM.get [],W⟩
theorem Np {N:Nat} {W:World} {b:Nat}:¬ (Nn N W).own b:=by rintro ⟨g,hg,_⟩; cases hg
theorem Ec {N:Nat} {W:World} {b:Nat}:(Nn N W).B b↔b<N:=⟨fun h=>h.elim id fun h=>(Np h).elim,.inl⟩
theorem KP {N:Nat} {W:World} (h:N≤W.heap.size):Gd (Nn N W):=by
  refine ⟨⟨fun g hg=>(by cases hg),fun g g' hg=>(by cases hg),fun g hg=>(by cases hg),fun g hg=>(by cases hg),fun g t sz rs hm=>(by cases hm),fun g es hm=>(by cases hm)⟩,fun b hb=>H5 hb h⟩
theorem VR.cx {N:Nat} {W W':World} {x:AV} {v:Value} (h:VR (Nn N W) x v) (hp:x.pure=true) (hsz:W.heap.size≤W'.heap.size) (hc:∀ a v,N≤a.block→W.cell? a=some v→W'.cell? a=some v):VR (Nn N W') x v :=
  h.to (c':=Nn N W') (fun b _ hb hb'=>hb (Ec.2 (Ec.1 hb'))) hsz (fun a v hb h=>hc a v (by rw [Ec] at hb; omega) h) hp
def rS (l:List Due) (x:Nat×Thread):List Due:=(pA l ⟨x.2.untl,(x.1:Int)⟩).1
def pJ (pre:List (Nat×Thread)):List Due:=pre.foldl rS []
theorem Rt (pre:List (Nat×Thread)) (x:Nat×Thread):pJ (pre ++ [x])=rS (pJ pre) x:=by simp [pJ]
theorem nO (l:List Due):(AV.slv 2 (l.map cC)).pure=true:=bQ bK l
theorem Su {N:Nat} {W:World} {l:List Due} {d:Due} {z:Value} (hN:N≤W.heap.size) (hz:VR (Nn N W) (.slv 2 (l.map cC)) z) (hl:l.length≤10000) (hd:sF .i64 d.tm∧sF .i64 d.id) :
    Calls Tryz.prog 59 #[z,.agg #[.int .i64 d.tm,.int .i64 d.id]] W fun en w'=>∃ zz e,en=.returned (.tuple #[zz,e])∧W.heap.size≤w'.heap.size∧(∀ b,b<W.heap.size→w'.heap[b]?=W.heap[b]?)∧(w'.os=W.os∧w'.tape=W.tape∧w'.output=W.output)∧VR (Nn N w') (.slv 2 ((pA l d).1.map cC)) zz:=by
  have hcon:=OH (l:=l) (d:=d) hl
  refine (hcon.2 (Nn N W) (KP hN) rfl (fun n hn=>hn.elim) _ ⟨rfl,fun i x hi=>?_⟩).mono ?_
  · cases i with
    | zero=>simp at hi; subst hi; exact hz
    | succ i => cases i with
      | succ i=>simp at hi
      | zero =>
        simp at hi; subst hi
        refine .agg _ _ rfl (fun i x hi=>?_) (fun i x hi=>?_)
        · cases i with
          | zero=>simp [cC] at hi; subst hi; rfl
          | succ i=>cases i with
            | zero=>simp [cC] at hi; subst hi; rfl
            | succ i=>simp [cC] at hi
        · cases i with
          | zero=>simp [cC] at hi; subst hi; exact .int _ _ hd.1
          | succ i=>cases i with
            | zero=>simp [cC] at hi; subst hi; exact .int _ _ hd.2
            | succ i=>simp [cC] at hi
  · rintro en w' ⟨c1,z1,rfl,rfl,g1,g2,g3,g4,g5⟩
    have own1:∀ b,¬ c1.own b:=by
      rintro b ⟨g,hg,_⟩
      have:c1.m=AM.get []:=g3
      rw [Ctx.L,this] at hg; cases hg
    cases g5 with
    | tup _ vs k1 k2 =>
      have hs:vs.size=2:=k1.symm
      have e:vs=#[vs.getD 0 dB,vs.getD 1 dB]:=by
        apply Array.ext
        · simp [hs]
        · intro i h4 h5
          match i with
          | 0=>simp [h4]
          | 1=>simp [h4]
          | i+2=>simp at h5; omega
      have h0:=k2 0 _ rfl
      refine ⟨vs.getD 0 dB,vs.getD 1 dB,by rw [← e],g2.size,fun b hb=>g2.keep b hb Np,⟨g2.os,g2.tape,g2.output⟩,?_⟩
      refine VR.to (c:=c1) (c':=Nn N c1.w) (fun b _ hb hb'=>hb ?_) (G1 _) (fun a v _ h=>h) h0 (nO _)
      rw [Ec] at hb'
      left; rw [g2.F]; exact hb'
def DuI (W0:World) (ob T:Nat) (pre:List (Nat×Thread)) (W:World):Prop:=W0.heap.size≤W.heap.size∧(∀ b,b<W0.heap.size→b≠ob→W.heap[b]?=W0.heap[b]?)∧(W.os=W0.os∧W.tape=W0.tape∧W.output=W0.output) ∧
  ∃ z cs,W.heap[ob]?=some (.cells cs T)∧cs[0]?=some z∧VR (Nn W0.heap.size W) (.slv 2 ((pJ pre).map cC)) z
theorem DuI.alloc {W0 W:World} {ob T:Nat} {pre:List (Nat×Thread)} (hob:ob<W0.heap.size) (h:DuI W0 ob T pre W) (o:Obj):DuI W0 ob T pre (W.alloc o):=by
  obtain ⟨h1,h2,h3,z,cs,h4,h4z,h5⟩:=h
  refine ⟨by simp; omega,fun b hb hn=>(Below.heap_alloc W o b (by omega)).trans (h2 b hb hn),h3,z,cs,(Below.heap_alloc W o ob (by omega)).trans h4,h4z,h5.cx (nO _) (by simp) fun a v _ h=>(World.cell?_of_block (Below.heap_alloc W o _ (kP h))).trans h⟩
theorem DuI.drew {W0 W:World} {ob T:Nat} {pre:List (Nat×Thread)} (h:DuI W0 ob T pre W):DuI W0 ob T pre W.drew:=by
  obtain ⟨h1,h2,h3,z,cs,h4,h4z,h5⟩:=h
  exact ⟨h1,h2,h3,z,cs,h4,h4z,h5.cx (nO _) (G1 _) fun a v _ h=>h⟩
theorem DuI.put {W0 W:World} {ob T:Nat} {pre:List (Nat×Thread)} (hob:ob<W0.heap.size) (h:DuI W0 ob T pre W) {k:Nat} {o o':Obj} (hk:W0.heap.size≤k) (hko:W.heap[k]?=some o) (hc:o.isCells=false):DuI W0 ob T pre (W.putObj k o'):=by
  obtain ⟨h1,h2,h3,z,cs,h4,h4z,h5⟩:=h
  refine ⟨by simpa using h1,fun b hb hn=>(World.putObj_heap_other (by omega)).trans (h2 b hb hn),h3,z,cs,(World.putObj_heap_other (by omega)).trans h4,h4z,h5.cx (nO _) (by simp) fun a v _ h=>?_⟩
  have hne:a.block≠k:=by
    intro e
    unfold World.cell? at h
    rw [e,hko] at h
    cases o with
    | cells _ _ _=>cases hc
    | _=>cases h
  exact (World.cell?_of_block (World.putObj_heap_other hne)).trans h
theorem Dx {W:World} {b T:Nat} {cs:Array Value} {z v:Value} (h:W.heap[b]?=some (.cells cs T)) (hz:cs[0]?=some z):(W.setCell ⟨b,0,none⟩ v).heap[b]?=some (.cells (cs.setIfInBounds 0 v) T)∧(cs.setIfInBounds 0 v)[0]?=some v:=by
  obtain ⟨h1,h2⟩:=Array.getElem?_eq_some_iff.1 h
  have h3:=(Array.getElem?_eq_some_iff.1 hz).1
  refine ⟨?_,by rw [Array.getElem?_setIfInBounds_self_of_lt h3]⟩
  unfold World.setCell
  simp only []
  rw [Array.getElem?_modify,if_pos rfl,h]
  rfl
attribute [local go_sem] Oper.semAt_some
set_option linter.unusedVariables false
set_option linter.unusedSimpArgs false
set_option maxRecDepth 100000
set_option maxHeartbeats 4000000



def qY:Code→Option (Code×Code)
  | .seq x y=>match qY x with
    | some r=>some r
    | none=>qY y
  | .block _ x=>qY x
  | .rangeFunc _ _ a b=>some (a,b)
  | _=>none
noncomputable def asgD:Code:=match Tryz.f21.body.bind qY with
  | some r=>r.1
  | none=>.skip
noncomputable def bodyD:Code:=match Tryz.f21.body.bind qY with
  | some r=>r.2
  | none=>.skip
def VY (W0:World) (ob sb:Nat) (x0 x1 x3 x4 x5 x6 x7 x8 Dr Hh x12 x13 x14 Ki Fi Kj Ke Hi Tj x21:Value) (pre:List (Nat×Thread)) (x:Nat×Thread) (a:Act) (W:World):Prop :=
  DuI W0 ob 48 pre W∧∃ nb,a={ tmps:=#[x0,x1,.pointer (some ⟨ob,0,none⟩),.int .i64 (x.1:Int),.pointer (some ⟨nb,0,none⟩),x5,x6,x7,x8,.func (.func 103) #[] #[.pointer (some ⟨sb,0,none⟩)],.int .i64 (x.1:Int),.agg (Ox x.2),x12,x13,x14,Ki,Fi,Kj,Ke,Hi,Tj,x21],defers:=[] }∧W.heap[nb]?=some (.cells (Ox x.2) 42)∧W0.heap.size≤nb
theorem Zw {c:Ctx} {sz:Nat} {rows:List (List AV)} {z:Value} (h:VR c (.slv sz rows) z):∃ a n k,z=.slice a n k:=by
  cases h with
  | slv0=>exact ⟨_,_,_,rfl⟩
  | slve=>exact ⟨_,_,_,rfl⟩
  | slvs=>exact ⟨_,_,_,rfl⟩
theorem Uc (n l:Nat) {W0:World} {ob sb:Nat} (hob:ob<W0.heap.size) (x0 x1 x3 x4 x5 x6 x7 x8 Dr Hh x12 x13 x14 Ki Fi Kj Ke Hi Tj x21:Value) (pre:List (Nat×Thread)) (x:Nat×Thread) (W:World) (h:DuI W0 ob 48 pre W) (K:Act→World→Prop) (hK:∀ a1 W1,KF W0.heap.size W W1→VY W0 ob sb x0 x1 x3 x4 x5 x6 x7 x8 Dr Hh x12 x13 x14 Ki Fi Kj Ke Hi Tj x21 pre x a1 W1→K a1 W1) :
    asgD.wpIn (Fence.wide.inRound l) n Tryz.prog (Exit.then K (fun _ _ _=>False)) { tmps:=#[x0,x1,.pointer (some ⟨ob,0,none⟩),x3,x4,x5,x6,x7,x8,.func (.func 103) #[] #[.pointer (some ⟨sb,0,none⟩)],.int .i64 (x.1:Int),.agg (Ox x.2),x12,x13,x14,Ki,Fi,Kj,Ke,Hi,Tj,x21],defers:=[] } W:=by
  dsimp only [asgD,Tryz.f21,Option.bind,qY]
  have ha:=h.alloc hob (.cells (Ox x.2) 42)
  have hn:=World.alloc_heap_new W (.cells (Ox x.2) 42)
  unfold Ox at ha hn ⊢
  gi_wp2_with fail
  exact hK _ _ ⟨by simp,fun k h1 h2=>Below.heap_alloc W _ k h2⟩ ⟨ha,_,rfl,hn,h.1⟩
theorem Qs (n l:Nat) {W0:World} {ob sb:Nat} (hob:ob<W0.heap.size) (x0 x1 x3 x4 x5 x6 x7 x8 Dr Hh x12 x13 x14 Ki Fi Kj Ke Hi Tj x21:Value) (pre:List (Nat×Thread)) (x:Nat×Thread) (a1:Act) (W:World) (h:VY W0 ob sb x0 x1 x3 x4 x5 x6 x7 x8 Dr Hh x12 x13 x14 Ki Fi Kj Ke Hi Tj x21 pre x a1 W) (hl:(pJ pre).length≤10000) (hx:sF .i64 x.2.untl∧sF .i64 (x.1:Int)) :
    bodyD.wpIn (Fence.wide.inRound l) n Tryz.prog (fun e _ W2=>KF W0.heap.size W W2∧(match e with | .normal=>DuI W0 ob 48 (pre ++ [x]) W2 | _=>False)) a1 W:=by
  dsimp only [bodyD,Tryz.f21,Option.bind,qY]
  obtain ⟨⟨h1,h2,h3,z,cs,h4,h4z,h5⟩,nb,rfl,hnb,hnb0⟩:=h
  have k0:W.cell? ⟨ob,0,none⟩=some z:=by rw [World.cell?,h4]; exact h4z
  have k3:W.cell? ⟨nb,3,none⟩=some (.int .i64 x.2.untl):=by rw [World.cell?,hnb]; rfl
  have hput:=Su (l:=pJ pre) (d:=⟨x.2.untl,(x.1:Int)⟩) h1 h5 hl hx
  have A:Aside (W0.heap.size≤W.heap.size∧(∀ b,b<W0.heap.size→b≠ob→W.heap[b]?=W0.heap[b]?)∧(W.os=W0.os∧W.tape=W0.tape∧W.output=W0.output)∧W.heap[ob]?=some (.cells cs 48)∧cs[0]?=some z):=⟨h1,h2,h3,h4,h4z⟩
  clear h1 h2 h3 h4 h4z h5 hnb hnb0 hl hx
  gi_wp2_with fail
  refine ⟨trivial,fun h=>(by cases h),CallsIn.inRound l ((callsIn_wide (n:=n - 1)).2 hput |>.mono ?_)⟩
  rintro en W2 ⟨zz,e,rfl,q1,q2,q3,q4⟩
  have hob2:W2.heap[ob]?=some (.cells cs 48):=(q2 ob (by have:=A.out.1; omega)).trans A.out.2.2.2.1
  have kb:W2.cell? ⟨ob,0,none⟩=some z:=by rw [World.cell?,hob2]; exact A.out.2.2.2.2
  have kf:W2.frozen? ⟨ob,0,none⟩=false:=by rw [World.frozen?,hob2]; rfl
  obtain ⟨s1,s2,s3,e3⟩:=Zw q4
  rw [e3] at q4
  rw [e3]
  have B:Aside ((∀ b,b<W.heap.size→W2.heap[b]?=W.heap[b]?)∧W.heap.size≤W2.heap.size∧(W2.os=W.os∧W2.tape=W.tape∧W2.output=W.output)∧VR (Nn W0.heap.size W2) (.slv 2 ((pA (pJ pre) ⟨x.2.untl,(x.1:Int)⟩).1.map cC)) (.slice s1 s2 s3)):=⟨q2,q1,q3,q4⟩
  clear q1 q2 q3 q4 hput e3
  gi_wp2_with fail
  obtain ⟨a1,a2,a3,a4,a5⟩:=A.out
  have hcs:=Dx (v:=.slice s1 s2 s3) hob2 a5
  obtain ⟨b1,b2,b3,b4⟩:=B.out
  have hsz:(W2.setCell ⟨ob,0,none⟩ (.slice s1 s2 s3)).heap.size=W2.heap.size:=by simp [World.setCell]
  have hoth:∀ b,b≠ob→(W2.setCell ⟨ob,0,none⟩ (.slice s1 s2 s3)).heap[b]?=W2.heap[b]?:=fun b hb=>Below.heap_setCell W2 _ _ b hb
  refine ⟨⟨by rw [hsz]; exact b2,fun k h1 h2=>(hoth k (by omega)).trans (b1 k h2)⟩,by rw [hsz]; omega,fun b hb hn=>(hoth b hn).trans ((b1 b (by omega)).trans (a2 b hb hn)),⟨b3.1.trans a3.1,b3.2.1.trans a3.2.1,b3.2.2.trans a3.2.2⟩,_,_,hcs.1,hcs.2,?_⟩
  rw [Rt]
  exact b4.cx (nO _) (by rw [hsz]; exact G1 _) fun a v hb h=>(World.cell?_of_block (hoth _ (by omega))).trans h
attribute [local go_sem] Oper.semAt_some
set_option linter.unusedVariables false
set_option linter.unusedSimpArgs false
set_option maxRecDepth 100000
set_option maxHeartbeats 4000000




theorem Ch : ∀ (n:Nat) (l:List Nat),l.Nodup→(∀ x,x∈l→x<n)→l.length≤n
  | 0,l,_,h=>by
    cases l with
    | nil=>simp
    | cons x l=>have:=h x (List.mem_cons_self ..); omega
  | n + 1, l,hn,h=>by
    by_cases hm:n∈l
    · have h1:=List.length_erase_of_mem hm
      have h2:=Ch n (l.erase n) (hn.erase n) (fun x hx=>by
        have h3:=h x (List.mem_of_mem_erase hx)
        have h4:x≠n:=fun e=>by
          subst e
          exact (hn.not_mem_erase) hx
        omega)
      omega
    · exact Nat.le_succ_of_le (Ch n l hn fun x hx=>by
        have h3:=h x hx
        have h4:x≠n:=fun e=>hm (e ▸ hx)
        omega)
theorem Ii {l:List Due} (h:dP l=true):l.length≤16:=by
  obtain ⟨h1,h2,_⟩:=kD.1 h
  have h3:((l.map (·.id)).map Int.toNat).Nodup:=by
    rw [List.map_map]
    refine List.pairwise_map.2 ((List.pairwise_map.1 h2).imp_of_mem fun {a b} ha hb hab e=>hab ?_)
    have q1:=(h1 a ha).2; have q2:=(h1 b hb).2
    simp only [Rf,D9,decide_eq_true_eq] at q1 q2
    simp only [Function.comp] at e
    omega
  have h4:=Ch 16 _ h3 (fun x hx=>by
    obtain ⟨y,hy,rfl⟩:=List.mem_map.1 hx
    obtain ⟨d,hd,rfl⟩:=List.mem_map.1 hy
    have q1:=(h1 d hd).2
    simp only [Rf,D9,decide_eq_true_eq] at q1
    omega)
  simpa using h4
theorem Wl {l:List Due} (h:dP l=true) (x:Nat×Thread):dP (rS l x)=true:=by
  unfold rS pA
  split
  · exact h
  · split
    · exact h
    · split
      · exact h
      · split
        · exact h
        · rename_i h1 h2 h3 h4
          have hn:∀ y,y∈l→y.id≠(x.1:Int):=fun y hy e=>h4 (by rw [Lh h]; exact Hz.2 ⟨y,hy,e⟩)
          have:=Yv (l:=l) (d:=⟨x.2.untl,(x.1:Int)⟩) h (by simpa using h2) (by simpa using h3) hn
          have e:oZ (iG l) ⟨x.2.untl,(x.1:Int)⟩=l ++ [⟨x.2.untl,(x.1:Int)⟩]:=by
            rw [Lh h]; unfold oZ; rw [nT hn]
          rw [e]; exact this.2
theorem Ih (pre:List (Nat×Thread)):dP (pJ pre)=true:=by
  have:∀ (pre:List (Nat×Thread)) (l:List Due),dP l=true→dP (pre.foldl rS l)=true:=by
    intro pre
    induction pre with
    | nil=>intro l h; exact h
    | cons x pre ih=>intro l h; exact ih _ (Wl h x)
  exact this pre [] rfl
def ND (x:Nat×Thread):Prop:=sF .i64 x.2.untl∧sF .i64 (x.1:Int)
def oT (p:List { x:Nat×Thread // ND x }):List (Nat×Thread):=p.map (·.1)
theorem Zu {p q:List { x:Nat×Thread // ND x }} (h:oT p=oT q):p=q:=(List.map_inj_right fun x y e=>Subtype.ext e).1 h
theorem Sb {ts:List Thread} (hl:ts.length≤100000) (hir:∀ t,t∈ts→sF .i64 t.untl):∀ x,x∈iB ts ts.length→ND x:=by
  intro x hx
  obtain ⟨p,hp,rfl⟩:=List.mem_map.1 hx
  have h1:=(List.mem_filter.1 hp).1
  rw [List.take_length] at h1
  obtain ⟨t,i⟩:=p
  obtain ⟨h2,h3,h4⟩:=List.mem_zipIdx h1
  simp only [Nat.zero_add,Nat.sub_zero] at h3 h4
  refine ⟨hir t (by rw [h4]; exact List.getElem_mem _),?_⟩
  simp only [sF,IntKind.min,IntKind.max,IntKind.signed,IntKind.bits]
  simp; omega
def Keeps (w w':World):Prop:=w.heap.size≤w'.heap.size∧(∀ b,b<w.heap.size→w'.heap[b]?=w.heap[b]?)∧(w'.os=w.os∧w'.tape=w.tape∧w'.output=w.output)
theorem Keeps.trans {a b c:World} (h:Keeps a b) (k:Keeps b c):Keeps a c:=⟨Nat.le_trans h.1 k.1,fun i hi=>(k.2.1 i (Nat.lt_of_lt_of_le hi h.1)).trans (h.2.1 i hi),k.2.2.1.trans h.2.2.1,k.2.2.2.1.trans h.2.2.2.1,k.2.2.2.2.trans h.2.2.2.2⟩
theorem Keeps.alloc (w:World) (o:Obj):Keeps w (w.alloc o):=⟨by simp,fun b hb=>Below.heap_alloc w o b hb,rfl,rfl,rfl⟩
theorem Lk {f:FuncId} (h:mM Tryz.prog f):∀ args w,(callFunc f args).run Tryz.prog w=.ok (.enter f args) w:=fun args w=>nK h args w
end Go.Sak
