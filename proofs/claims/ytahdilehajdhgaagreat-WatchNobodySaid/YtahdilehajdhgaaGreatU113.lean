/- Part U113 of the proofs about the program: Rl, Rm, Ro. Conditions: none. -/
import Derived.Test.YtahdilehajdhgaaGreatU112
import Derived.OneCell
open Go.Sak.AV renaming pure→BA
namespace Go.Sak
open Go Go.RowKit Go.Shelf Go.Proofs
attribute [local go_sem] Oper.semAt_some
set_option linter.unusedVariables false
set_option linter.unusedSimpArgs false
set_option maxRecDepth 100000
set_option maxHeartbeats 4000000


theorem fV {l:List AV} {i:Nat} {x:AV} (h:pures l=true) (hi:l[i]?=some x):x.pure=true:=by
  induction l generalizing i with
  | nil=>simp at hi
  | cons y l ih =>
    simp only [pures,Bool.and_eq_true] at h
    cases i with
    | zero=>simp at hi; subst hi; exact h.1
    | succ i=>exact ih h.2 (by simpa using hi)
theorem uI {l:List (List AV)} {i:Nat} {r:List AV} (h:puress l=true) (hi:l[i]?=some r):pures r=true:=by
  induction l generalizing i with
  | nil=>simp at hi
  | cons y l ih =>
    simp only [puress,Bool.and_eq_true] at h
    cases i with
    | zero=>simp at hi; subst hi; exact h.1
    | succ i=>exact ih h.2 (by simpa using hi)
theorem VR.to {c c':Ctx} (hB:∀ b,b<c.w.heap.size→¬ c.B b→¬ c'.B b) (hsz:c.w.heap.size≤c'.w.heap.size) (hcell:∀ (a:Addr) v,¬ c.B a.block→c.w.cell? a=some v→c'.w.cell? a=some v) {x:AV} {v:Value} (h:VR c x v):x.pure=true→VR c' x v:=by
  induction h with
  | int k n h=>intro _; exact .int k n h
  | bool b=>intro _; exact .bool b
  | str s h=>intro _; exact .str s h
  | nilp=>intro _; exact .nilp
  | ptr g row off a h1 h2=>intro hp; simp [BA] at hp
  | pv cells a us h1 h2 h3 h4 h5 ih=>intro hp; simp only [BA] at hp; exact .pv cells a us (hB _ h2 h1) (Nat.lt_of_lt_of_le h2 hsz) (fun i x hi=>hcell _ _ (by rwa [bU]) (h3 i x hi)) h4 (fun i x hi=>ih i x hi (fV hp hi))
  | slnil=>intro _; exact .slnil
  | sle sz a cap h=>intro _; exact .sle sz a cap h
  | slv0 sz=>intro _; exact .slv0 sz
  | slve sz a cap h=>intro _; exact .slve sz a cap h
  | slvs sz rows a cap us h1 h2 h3 h4 h5 h6 h7 h8 h9 ih=>intro hp; simp only [BA] at hp; exact .slvs sz rows a cap us h1 h2 h3 (hB _ h5 h4) (Nat.lt_of_lt_of_le h5 hsz) h6 (fun i r j x hi hj=>hcell _ _ (by rwa [bU]) (h7 i r j x hi hj)) h8 (fun i r j x hi hj=>ih i r j x hi hj (fV (uI hp hi) hj))
  | slm g len a n cap h1 h2=>intro hp; simp [BA] at hp
  | mapnil=>intro _; exact .mapnil
  | mapm g r h1 h2=>intro hp; simp [BA] at hp
  | fn f fs cs vs us h1 h2 h3 h4 ih1 ih2=>intro hp; simp only [BA,Bool.and_eq_true] at hp; exact .fn f fs cs vs us h1 h2 (fun i x hi=>ih1 i x hi (fV hp.1 hi)) (fun i x hi=>ih2 i x hi (fV hp.2 hi))
  | fnnil=>intro _; exact .fnnil
  | iface t x v h ih=>intro hp; simp only [BA] at hp; exact .iface t x v (ih hp)
  | ifnil=>intro _; exact .ifnil
  | agg cells vs h1 h2 h3 ih=>intro hp; simp only [BA] at hp; exact .agg cells vs h1 h2 (fun i x hi=>ih i x hi (fV hp hi))
  | tup cells vs h1 h2 ih=>intro hp; simp only [BA] at hp; exact .tup cells vs h1 (fun i x hi=>ih i x hi (fV hp hi))
  | und v=>intro _; exact .und v
def Dd (N:Nat) (W:World):Ctx:=⟨fun b=>b<N,fun _=>default,fun _=>False,AM.get [],W⟩
theorem zT {N:Nat} {W:World} {b:Nat}:¬ (Dd N W).own b:=by rintro ⟨g,hg,_⟩; cases hg
theorem vW {N:Nat} {W:World} {b:Nat}:(Dd N W).B b↔b<N:=⟨fun h=>h.elim id fun h=>(zT h).elim,.inl⟩
theorem VR.cx {N:Nat} {W W':World} {x:AV} {v:Value} (h:VR (Dd N W) x v) (hp:x.pure=true) (hsz:W.heap.size≤W'.heap.size) (hc:∀ a v,N≤a.block→W.cell? a=some v→W'.cell? a=some v):VR (Dd N W') x v :=
  h.to (c':=Dd N W') (fun b _ hb hb'=>hb (vW.2 (vW.1 hb'))) hsz (fun a v hb h=>hc a v (by rw [vW] at hb; omega) h) hp
def Hz (l:List Due) (x:Nat×Thread):List Due:=(Bz l ⟨x.2.untl,(x.1:Int)⟩).1
def Ia (pre:List (Nat×Thread)):List Due:=pre.foldl Hz []
theorem kO (l:List Due):(AV.slv 2 (l.map zV)).pure=true:=bG uH l
def DuI (W0:World) (ob T:Nat) (pre:List (Nat×Thread)) (W:World):Prop:=W0.heap.size≤W.heap.size∧(∀ b,b<W0.heap.size→b≠ob→W.heap[b]?=W0.heap[b]?)∧(W.os=W0.os∧W.tape=W0.tape∧W.output=W0.output) ∧
  ∃ z cs,W.heap[ob]?=some (.cells cs T)∧cs[0]?=some z∧VR (Dd W0.heap.size W) (.slv 2 ((Ia pre).map zV)) z
theorem DuI.alloc {W0 W:World} {ob T:Nat} {pre:List (Nat×Thread)} (hob:ob<W0.heap.size) (h:DuI W0 ob T pre W) (o:Obj):DuI W0 ob T pre (W.alloc o):=by
  obtain ⟨h1,h2,h3,z,cs,h4,h4z,h5⟩:=h
  refine ⟨by simp; omega,fun b hb hn=>(Below.heap_alloc W o b (by omega)).trans (h2 b hb hn),h3,z,cs,(Below.heap_alloc W o ob (by omega)).trans h4,h4z,h5.cx (kO _) (by simp) fun a v _ h=>(World.cell?_of_block (Below.heap_alloc W o _ (lA h))).trans h⟩
theorem DuI.drew {W0 W:World} {ob T:Nat} {pre:List (Nat×Thread)} (h:DuI W0 ob T pre W):DuI W0 ob T pre W.drew:=by
  obtain ⟨h1,h2,h3,z,cs,h4,h4z,h5⟩:=h
  exact ⟨h1,h2,h3,z,cs,h4,h4z,h5.cx (kO _) (Nat.le_refl _) fun a v _ h=>h⟩
theorem DuI.put {W0 W:World} {ob T:Nat} {pre:List (Nat×Thread)} (hob:ob<W0.heap.size) (h:DuI W0 ob T pre W) {k:Nat} {o o':Obj} (hk:W0.heap.size≤k) (hko:W.heap[k]?=some o) (hc:o.isCells=false):DuI W0 ob T pre (W.putObj k o'):=by
  obtain ⟨h1,h2,h3,z,cs,h4,h4z,h5⟩:=h
  refine ⟨by simpa using h1,fun b hb hn=>(World.putObj_heap_other (by omega)).trans (h2 b hb hn),h3,z,cs,(World.putObj_heap_other (by omega)).trans h4,h4z,h5.cx (kO _) (by simp) fun a v _ h=>?_⟩
  have hne:a.block≠k:=by
    intro e
    unfold World.cell? at h
    rw [e,hko] at h
    cases o with
    | cells _ _ _=>cases hc
    | _=>cases h
  exact (World.cell?_of_block (World.putObj_heap_other hne)).trans h
attribute [local go_sem] Oper.semAt_some
set_option linter.unusedVariables false
set_option linter.unusedSimpArgs false
set_option maxRecDepth 100000
set_option maxHeartbeats 4000000



attribute [local go_sem] Oper.semAt_some
set_option linter.unusedVariables false
set_option linter.unusedSimpArgs false
set_option maxRecDepth 100000
set_option maxHeartbeats 4000000




def Keeps (w w':World):Prop:=w.heap.size≤w'.heap.size∧(∀ b,b<w.heap.size→w'.heap[b]?=w.heap[b]?)∧(w'.os=w.os∧w'.tape=w.tape∧w'.output=w.output)
theorem Keeps.trans {a b c:World} (h:Keeps a b) (k:Keeps b c):Keeps a c:=⟨Nat.le_trans h.1 k.1,fun i hi=>(k.2.1 i (Nat.lt_of_lt_of_le hi h.1)).trans (h.2.1 i hi),k.2.2.1.trans h.2.2.1,k.2.2.2.1.trans h.2.2.2.1,k.2.2.2.2.trans h.2.2.2.2⟩
theorem Keeps.alloc (w:World) (o:Obj):Keeps w (w.alloc o):=⟨by simp,fun b hb=>Below.heap_alloc w o b hb,rfl,rfl,rfl⟩
end Go.Sak
