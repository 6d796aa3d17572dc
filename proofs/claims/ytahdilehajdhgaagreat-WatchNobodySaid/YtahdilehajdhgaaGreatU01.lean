/- Part U01 of the proofs about the program: A, B, C, D, E, F, G, H, I, J. Conditions: none. -/
import Derived.WalkKit
import Derived.Below
import Derived.Orders
import Derived.Maps.AppendAt
import Derived.ChangeMaps5
open Array renaming eraseIdxIfInBounds→DB,getD_eq_getD_getElem?→Zp,getElem?_eq_getElem→CM,getElem?_modify→DJ,getElem?_setIfInBounds_ne→CA,length_toList→BO
open Bool renaming false_eq_true→AK,or_eq_true→AZ
open List renaming append_assoc→EM,eq_nil_of_length_eq_zero→CQ,getD_eq_getElem?_getD→Zr,getElem?_append_left→AF,getElem?_append_right→AJ,getElem?_cons_zero→DD,getElem?_drop→AU,getElem?_eq_getElem→Zz,getElem?_eq_none→BI,getElem?_eq_some_iff→Zw,getElem?_map→CX,getElem?_set→CO,getElem?_take→AW,getElem_of_mem→EB,length_append→CH,length_cons→AQ,length_take→DA,map_append→DX,map_cons→BG,map_nil→ED,mem_append→BV,mem_singleton→EI,nil_append→BE,replicate→BZ,zipIdx_cons→FU
open Nat renaming add_assoc→FF,add_mul→BJ,add_zero→CT,le_refl→AP,le_trans→EE,lt_of_lt_of_le→AN,min_eq_left→DY,mul_le_mul_right→AI,one_mul→CC,zero_add→BF,zero_le→BS
open Option renaming isSome_iff_exists→Zx,map_eq_some_iff→Zl
open Option.some renaming inj→Zm,injEq→Zn
namespace Go.Sak
open Go Go.RowKit

inductive AV where
  | int (k:IntKind) (n:Int)
  | bool (b:Bool)
  | str (s:ByteArray)
  | nilp
  | ptr (g row off:Nat)
  | pv (cells:List AV)
  | slnil
  | sle (sz:Nat)
  | slv (sz:Nat) (rows:List (List AV))
  | slm (g len:Nat)
  | mapnil
  | mapm (g:Nat)
  | fn (f:Fn) (first captured:List AV)
  | fnnil
  | iface (t:TypeId) (v:AV)
  | ifnil
  | agg (cells:List AV)
  | tup (vs:List AV)
  | und
  deriving Inhabited

def AV.one:AV→Bool
  | .agg _ | .tup _ | .und=>false
  | _=>true

inductive Blk where
  | rows (t:TypeId) (sz:Nat) (rs:List (List AV))
  | mp (es:List (AV×AV))

structure NI where
  blk:Nat
  cap:Nat
  sz:Nat
  deriving Inhabited

structure Ctx where
  F:Nat→Prop
  ρ:Nat→NI
  U:Nat→Prop
  m:Nat→Option Blk
  w:World

def Ctx.L (c:Ctx) (g:Nat):Prop:=(c.m g).isSome=true
def Ctx.own (c:Ctx) (b:Nat):Prop:=∃ g,c.L g∧(c.ρ g).blk=b
def Ctx.B (c:Ctx) (b:Nat):Prop:=c.F b∨c.own b

def sL (k:IntKind) (n:Int):Prop:=k.min≤n∧n≤k.max
instance (k:IntKind) (n:Int):Decidable (sL k n):=by unfold sL; infer_instance

def bX:Value:=.tuple #[]

inductive VR (c:Ctx):AV→Value→Prop
  | int (k n):sL k n→VR c (.int k n) (.int k n)
  | bool (b):VR c (.bool b) (.bool b)
  | str (s):s.size≤maxLen→VR c (.str s) (.string s)
  | nilp:VR c .nilp (.pointer none)
  | ptr (g row off) (a:Option Addr):c.U g→(c.L g→a=some ⟨(c.ρ g).blk,row * (c.ρ g).sz+off,none⟩)→VR c (.ptr g row off) (.pointer a)
  | pv (cells:List AV) (a:Addr) (us:Nat→Value):¬ c.B a.block→a.block<c.w.heap.size→(∀ (i:Nat) (x:AV),cells[i]?=some x→c.w.cell? (a.add i)=some (us i)) →
      (∀ (i:Nat) (x:AV),cells[i]?=some x→x.one=true)→(∀ (i:Nat) (x:AV),cells[i]?=some x→VR c x (us i))→VR c (.pv cells) (.pointer (some a))
  | slnil:VR c .slnil (.slice none 0 0)
  | sle (sz:Nat) (a:Addr) (cap:Nat):cap≤maxLen→VR c (.sle sz) (.slice (some a) 0 cap)
  | slv0 (sz):VR c (.slv sz []) (.slice none 0 0)
  | slve (sz) (a:Addr) (cap:Nat):cap≤maxLen→VR c (.slv sz []) (.slice (some a) 0 cap)
  | slvs (sz:Nat) (rows:List (List AV)) (a:Addr) (cap:Nat) (us:Nat→Nat→Value):rows≠[]→rows.length≤cap→cap≤maxLen→¬ c.B a.block→a.block<c.w.heap.size →
      (∀ (i:Nat) (r:List AV),rows[i]?=some r→r.length=sz) →
      (∀ (i:Nat) (r:List AV) (j:Nat) (x:AV),rows[i]?=some r→r[j]?=some x→c.w.cell? (a.add (i * sz+j))=some (us i j)) →
      (∀ (i:Nat) (r:List AV) (j:Nat) (x:AV),rows[i]?=some r→r[j]?=some x→x.one=true) →
      (∀ (i:Nat) (r:List AV) (j:Nat) (x:AV),rows[i]?=some r→r[j]?=some x→VR c x (us i j))→VR c (.slv sz rows) (.slice (some a) rows.length cap)
  | slm (g len) (a:Option Addr) (n cap:Nat):c.U g→(c.L g→a=some ⟨(c.ρ g).blk,0,none⟩∧n=len∧cap=(c.ρ g).cap)→VR c (.slm g len) (.slice a n cap)
  | mapnil:VR c .mapnil (.map none)
  | mapm (g) (r:Option Nat):c.U g→(c.L g→r=some (c.ρ g).blk)→VR c (.mapm g) (.map r)
  | fn (f:Fn) (fs cs:List AV) (vs us:Array Value):fs.length=vs.size→cs.length=us.size→(∀ (i:Nat) (x:AV),fs[i]?=some x→VR c x (vs.getD i bX)) →
      (∀ (i:Nat) (x:AV),cs[i]?=some x→VR c x (us.getD i bX))→VR c (.fn f fs cs) (.func f vs us)
  | fnnil:VR c .fnnil .nilFunc
  | iface (t x v):VR c x v→VR c (.iface t x) (.iface t v)
  | ifnil:VR c .ifnil .nilIface
  | agg (cells:List AV) (vs:Array Value):cells.length=vs.size→(∀ (i:Nat) (x:AV),cells[i]?=some x→x.one=true)→(∀ (i:Nat) (x:AV),cells[i]?=some x→VR c x (vs.getD i bX))→VR c (.agg cells) (.agg vs)
  | tup (cells:List AV) (vs:Array Value):cells.length=vs.size→(∀ (i:Nat) (x:AV),cells[i]?=some x→VR c x (vs.getD i bX))→VR c (.tup cells) (.tuple vs)
  | und (v):VR c .und v

structure St (c c':Ctx):Prop where
  os:c'.w.os=c.w.os
  tape:c'.w.tape=c.w.tape
  output:c'.w.output=c.w.output
  size:c.w.heap.size≤c'.w.heap.size
  keep:∀ b,b<c.w.heap.size→¬ c.own b→c'.w.heap[b]?=c.w.heap[b]?
  F:c'.F=c.F
  own:∀ b,b<c.w.heap.size→c'.own b→c.own b
  U:∀ g,c.U g→c'.U g
  names:∀ g,c.U g→c'.L g→c.L g∧c'.ρ g=c.ρ g

theorem St.refl (c:Ctx):St c c:=⟨rfl,rfl,rfl,Nat.le_refl _,fun _ _ _=>rfl,rfl,fun _ _ h=>h,fun _ h=>h,fun _ _ h=>⟨h,rfl⟩⟩
theorem St.trans {a b c:Ctx} (h:St a b) (k:St b c):St a c :=
  ⟨k.os.trans h.os,k.tape.trans h.tape,k.output.trans h.output,EE h.size k.size,
    fun i hi hn=>(k.keep i (AN hi h.size) (fun e=>hn (h.own i hi e))).trans (h.keep i hi hn),k.F.trans h.F,
    fun i hi e=>h.own i hi (k.own i (AN hi h.size) e),fun g hg=>k.U g (h.U g hg),
    fun g hg hl=>by
      obtain ⟨h1,h2⟩:=k.names g (h.U g hg) hl
      obtain ⟨h3,h4⟩:=h.names g hg h1
      exact ⟨h3,h2.trans h4⟩⟩

theorem St.notB {c c':Ctx} (h:St c c') {b:Nat} (hb:b<c.w.heap.size) (hn:¬ c.B b):¬ c'.B b:=by
  rintro (h1 | h1)
  · rw [h.F] at h1; exact hn (.inl h1)
  · exact hn (.inr (h.own b hb h1))

theorem bU (a:Addr) (n:Nat):(a.add n).block=a.block:=by unfold Addr.add; split <;> rfl

theorem St.cell {c c':Ctx} (h:St c c') {a:Addr} (hb:a.block<c.w.heap.size) (hn:¬ c.B a.block) (n:Nat):c'.w.cell? (a.add n)=c.w.cell? (a.add n) :=
  World.cell?_of_block (by rw [bU]; exact h.keep _ hb (fun e=>hn (.inr e)))

theorem VR.mono {c c':Ctx} (h:St c c') {x:AV} {v:Value} (hx:VR c x v):VR c' x v:=by
  induction hx with
  | int k n hr=>exact .int k n hr
  | bool b=>exact .bool b
  | str s hs=>exact .str s hs
  | nilp=>exact .nilp
  | ptr g row off a hU hL=>exact .ptr g row off a (h.U g hU) (fun hl=>by obtain ⟨h1,h2⟩:=h.names g hU hl; rw [h2]; exact hL h1)
  | pv cells a us hB hb hc h1 hv ih=>exact .pv cells a us (h.notB hb hB) (AN hb h.size) (fun i x hi=>(h.cell hb hB i).trans (hc i x hi)) h1 ih
  | slnil=>exact .slnil
  | sle sz a cap hc=>exact .sle sz a cap hc
  | slv0 sz=>exact .slv0 sz
  | slve sz a cap hc=>exact .slve sz a cap hc
  | slvs sz rows a cap us h0 hl hm hB hb hsz hc h1 hv ih=>exact .slvs sz rows a cap us h0 hl hm (h.notB hb hB) (AN hb h.size) hsz (fun i r j x hi hj=>(h.cell hb hB _).trans (hc i r j x hi hj)) h1 ih
  | slm g len a n cap hU hL=>exact .slm g len a n cap (h.U g hU) (fun hl=>by obtain ⟨h1,h2⟩:=h.names g hU hl; rw [h2]; exact hL h1)
  | mapnil=>exact .mapnil
  | mapm g r hU hL=>exact .mapm g r (h.U g hU) (fun hl=>by obtain ⟨h1,h2⟩:=h.names g hU hl; rw [h2]; exact hL h1)
  | fn f fs cs vs us h1 h2 h3 h4 ih1 ih2=>exact .fn f fs cs vs us h1 h2 ih1 ih2
  | fnnil=>exact .fnnil
  | iface t x v _ ih=>exact .iface t x v ih
  | ifnil=>exact .ifnil
  | agg cells vs h1 h2 _ ih=>exact .agg cells vs h1 h2 ih
  | tup cells vs h1 _ ih=>exact .tup cells vs h1 ih
  | und v=>exact .und v

theorem VR.oneCell {c:Ctx} {x:AV} {v:Value} (hx:VR c x v) (h:x.one=true):v.oneCell'=true:=by
  cases hx <;> first | rfl | (simp [AV.one] at h)

def AV.cells:AV→List AV
  | .agg cs=>cs
  | x=>[x]

def Stmp (en:Array MapEntry) (clk:Nat):Prop:=(∀ b,b∈en.toList.map (·.born)→b<clk)∧(en.toList.map (·.born)).Nodup
structure Good (c:Ctx):Prop where
  lt:∀ g,c.L g→(c.ρ g).blk<c.w.heap.size
  inj:∀ g g',c.L g→c.L g'→(c.ρ g).blk=(c.ρ g').blk→g=g'
  notF:∀ g,c.L g→¬ c.F (c.ρ g).blk
  used:∀ g,c.L g→c.U g
  rows:∀ g t sz rs,c.m g=some (.rows t sz rs)→∃ cs:Array Value,c.w.heap[(c.ρ g).blk]?=some (.cells cs t (0,0))∧(c.ρ g).sz=sz∧cs.size=(c.ρ g).cap * sz ∧
    rs.length≤(c.ρ g).cap∧(c.ρ g).cap≤maxLen ∧ 
    ∀ (i:Nat) (r:List AV),rs[i]?=some r→r.length=sz∧∀ (j:Nat) (x:AV),r[j]?=some x→x.one=true∧VR c x (cs.getD (i * sz+j) bX)
  mp : ∀ g es,c.m g=some (.mp es)→∃ (ents:Array MapEntry) (clk:Nat),c.w.heap[(c.ρ g).blk]?=some (.map ents clk)∧(ents.size=es.length∧Stmp ents clk) ∧
    ∀ (i:Nat) (k v:AV),es[i]?=some (k,v)→∃ e,ents[i]?=some e∧VR c k e.key∧VR c v e.val

def ER (c:Ctx) (env:List AV) (ts:Array Value):Prop:=env.length=ts.size∧∀ (i:Nat) (x:AV),env[i]?=some x→VR c x (ts.getD i bX)

theorem ER.mono {c c':Ctx} (h:St c c') {env:List AV} {ts:Array Value} (he:ER c env ts):ER c' env ts:=⟨he.1,fun i x hi=>(he.2 i x hi).mono h⟩
theorem ER.get {c:Ctx} {env:List AV} {ts:Array Value} (he:ER c env ts) (i:Nat):VR c (env.getD i .und) (ts.getD i bX):=by
  rcases Nat.lt_or_ge i env.length with h | h
  · have:=he.2 i env[i] (Zz h)
    rwa [Zr,Zz h]
  · rw [Zr,BI h]; exact .und _
theorem ER.set {c:Ctx} {env:List AV} {ts:Array Value} (he:ER c env ts) (d:Nat) {x:AV} {v:Value} (hx:VR c x v):ER c (env.set d x) (ts.setIfInBounds d v):=by
  refine ⟨by simp [he.1],fun i y hi=>?_⟩
  rw [CO] at hi
  by_cases hd:d=i
  · subst hd
    by_cases hl:d<env.length
    · rw [if_pos rfl,if_pos hl] at hi
      obtain rfl:x=y:=by simpa using hi
      have:d<ts.size:=by rw [← he.1]; exact hl
      simpa [Zp,Array.getElem?_setIfInBounds,this] using hx
    · rw [if_pos rfl,if_neg hl] at hi; cases hi
  · rw [if_neg hd] at hi
    have:=he.2 i y hi
    simpa [Zp,Array.getElem?_setIfInBounds,hd] using this

set_option linter.unusedVariables false

def put {α:Type} (f:Nat→α) (g:Nat) (x:α):Nat→α:=fun n=>if n=g then x else f n
@[simp] theorem wY {α:Type} (f:Nat→α) (g:Nat) (x:α):put f g x g=x:=by simp [put]
theorem uJ {α:Type} (f:Nat→α) {g n:Nat} (x:α) (h:n≠g):put f g x n=f n:=by simp [put,h]

structure Gd (c:Ctx):Prop extends Good c where
  flt:∀ b,c.F b→b<c.w.heap.size

theorem Gd.draw {c:Ctx} (h:Gd c):Gd { c with w:=c.w.drew }∧St c { c with w:=c.w.drew }:=by
  have hs:St c { c with w:=c.w.drew }:=⟨rfl,rfl,rfl,AP _,fun _ _ _=>rfl,rfl,fun _ _ e=>e,fun _ e=>e,fun _ _ e=>⟨e,rfl⟩⟩
  refine ⟨⟨⟨h.lt,h.inj,h.notF,h.used,fun g t sz rs hm=>?_,fun g es hm=>?_⟩,h.flt⟩,hs⟩
  · obtain ⟨cs,h1,h2,h3,h4,h5,h7⟩:=h.rows g t sz rs hm
    exact ⟨cs,h1,h2,h3,h4,h5,fun i r hi=>⟨(h7 i r hi).1,fun j x hj=>⟨((h7 i r hi).2 j x hj).1,((h7 i r hi).2 j x hj).2.mono hs⟩⟩⟩
  · obtain ⟨en,clk,h1,h2,h3⟩:=h.mp g es hm
    exact ⟨en,clk,h1,h2,fun i k v hi=>by obtain ⟨e,h4,h5,h6⟩:=h3 i k v hi; exact ⟨e,h4,h5.mono hs,h6.mono hs⟩⟩

def BlkOk (c:Ctx) (ni:NI) (o:Obj):Blk→Prop
  | .rows t sz rs=>∃ cs:Array Value,o=.cells cs t (0,0)∧ni.sz=sz∧cs.size=ni.cap * sz ∧
    rs.length≤ni.cap∧ni.cap≤maxLen ∧
    ∀ (i:Nat) (r:List AV),rs[i]?=some r→r.length=sz∧∀ (j:Nat) (x:AV),r[j]?=some x→x.one=true∧VR c x (cs.getD (i * sz+j) bX)
  | .mp es=>∃ (ents:Array MapEntry) (clk:Nat),o=.map ents clk∧(ents.size=es.length∧Stmp ents clk) ∧
    ∀ (i:Nat) (k v:AV),es[i]?=some (k,v)→∃ e,ents[i]?=some e∧VR c k e.key∧VR c v e.val

theorem BlkOk.mono {c c':Ctx} (h:St c c') {ni:NI} {o:Obj} {b:Blk} (hb:BlkOk c ni o b):BlkOk c' ni o b:=by
  cases b with
  | rows t sz rs =>
    obtain ⟨cs,h1,h2,h3,h4,h5,h7⟩:=hb
    exact ⟨cs,h1,h2,h3,h4,h5,fun i r hi=>⟨(h7 i r hi).1,fun j x hj=>⟨((h7 i r hi).2 j x hj).1,((h7 i r hi).2 j x hj).2.mono h⟩⟩⟩
  | mp es =>
    obtain ⟨en,clk,h1,h2,h3⟩:=hb
    exact ⟨en,clk,h1,h2,fun i k v hi=>by obtain ⟨e,h4,h5,h6⟩:=h3 i k v hi; exact ⟨e,h4,h5.mono h,h6.mono h⟩⟩

theorem Gd.blk {c:Ctx} (h:Gd c) {g:Nat} {b:Blk} (hm:c.m g=some b):∃ o,c.w.heap[(c.ρ g).blk]?=some o∧BlkOk c (c.ρ g) o b:=by
  cases b with
  | rows t sz rs =>
    obtain ⟨cs,h1,h2,h3,h4,h5,h7⟩:=h.rows g t sz rs hm
    exact ⟨_,h1,cs,rfl,h2,h3,h4,h5,h7⟩
  | mp es =>
    obtain ⟨en,clk,h1,h2,h3⟩:=h.mp g es hm
    exact ⟨_,h1,en,clk,rfl,h2,h3⟩

theorem Gd.mk' {c:Ctx} (lt:∀ g,c.L g→(c.ρ g).blk<c.w.heap.size) (inj:∀ g g',c.L g→c.L g'→(c.ρ g).blk=(c.ρ g').blk→g=g') (notF:∀ g,c.L g→¬ c.F (c.ρ g).blk)
    (used:∀ g,c.L g→c.U g) (blk:∀ g b,c.m g=some b→∃ o,c.w.heap[(c.ρ g).blk]?=some o∧BlkOk c (c.ρ g) o b) (flt:∀ b,c.F b→b<c.w.heap.size):Gd c :=
  ⟨⟨lt,inj,notF,used,fun g t sz rs hm=>by
      obtain ⟨o,h1,cs,rfl,h2⟩:=blk g _ hm
      exact ⟨cs,h1,h2⟩,fun g es hm=>by
      obtain ⟨o,h1,en,clk,rfl,h2⟩:=blk g _ hm
      exact ⟨en,clk,h1,h2⟩⟩,flt⟩

theorem Gd.write {c:Ctx} (h:Gd c) {g:Nat} {b0 b:Blk} (hm:c.m g=some b0) {o:Obj} {w':World} (hos:w'.os=c.w.os) (htape:w'.tape=c.w.tape) (hout:w'.output=c.w.output)
    (hsz:c.w.heap.size≤w'.heap.size) (hat:w'.heap[(c.ρ g).blk]?=some o) (hoth:∀ i,i<c.w.heap.size→i≠(c.ρ g).blk→w'.heap[i]?=c.w.heap[i]?) (hb:BlkOk c (c.ρ g) o b) :
    Gd { c with m:=put c.m g (some b),w:=w' }∧St c { c with m:=put c.m g (some b),w:=w' }:=by
  have hlg:c.L g:=by simp [Ctx.L,hm]
  have hL:∀ n,({ c with m:=put c.m g (some b),w:=w' }:Ctx).L n↔c.L n:=by
    intro n
    by_cases e:n=g
    · subst e; simp [Ctx.L,hm]
    · simp [Ctx.L,put,e]
  have hs:St c { c with m:=put c.m g (some b),w:=w' }:=⟨hos,htape,hout,hsz,fun i hi hn=>hoth i hi (fun e=>hn ⟨g,hlg,e.symm⟩),rfl,
    fun i _ ⟨n,h1,h2⟩=>⟨n,(hL n).1 h1,h2⟩,fun _ e=>e,fun n _ e=>⟨(hL n).1 e,rfl⟩⟩
  refine ⟨Gd.mk' (fun n hn=>AN (h.lt n ((hL n).1 hn)) hsz) (fun n k hn hk=>h.inj n k ((hL n).1 hn) ((hL k).1 hk)) (fun n hn=>h.notF n ((hL n).1 hn)) (fun n hn=>h.used n ((hL n).1 hn))
    (fun n b' hm'=>?_) (fun i hi=>AN (h.flt i hi) hsz),hs⟩
  by_cases e:n=g
  · subst e
    obtain rfl:b=b':=by simpa using hm'
    exact ⟨o,hat,hb.mono hs⟩
  · have hm1:c.m n=some b':=by simpa [put,e] using hm'
    obtain ⟨o',h1,h2⟩:=h.blk hm1
    have hl:c.L n:=by simp [Ctx.L,hm1]
    exact ⟨o',(hoth _ (h.lt n hl) (fun e'=>e (h.inj n g hl hlg e'))).trans h1,h2.mono hs⟩

def eB (m:Nat→Option Blk):Option Nat→Nat→Option Blk
  | none=>m
  | some g=>put m g none
def Ctx.move (c:Ctx) (g0:Nat) (k:Option Nat) (ni:NI) (b:Blk) (w':World):Ctx :=
  { F:=c.F,ρ:=put c.ρ g0 ni,U:=fun n=>n=g0∨c.U n,m:=put (eB c.m k) g0 (some b),w:=w' }

theorem Gd.move {c:Ctx} (h:Gd c) {g0:Nat} (hg:¬ c.U g0) {k:Option Nat} (hk:∀ g,k=some g→c.L g) {ni:NI} {b:Blk} {o:Obj} {w':World} (hos:w'.os=c.w.os) (htape:w'.tape=c.w.tape) (hout:w'.output=c.w.output)
    (hsz:c.w.heap.size≤w'.heap.size) (hblk:ni.blk=c.w.heap.size∨∃ g,k=some g∧ni.blk=(c.ρ g).blk) (hlt:ni.blk<w'.heap.size) (hat:w'.heap[ni.blk]?=some o)
    (hoth:∀ i,i<c.w.heap.size→(∀ g,k=some g→i≠(c.ρ g).blk)→w'.heap[i]?=c.w.heap[i]?) (hb:BlkOk c ni o b):Gd (c.move g0 k ni b w')∧St c (c.move g0 k ni b w'):=by
  have hkm:∀ n b',eB c.m k n=some b'→k≠some n∧c.m n=some b':=by
    intro n b' hn
    cases k with
    | none=>exact ⟨by simp,hn⟩
    | some g =>
      by_cases e:n=g
      · subst e; simp [eB] at hn
      · exact ⟨fun e'=>e (Zm e').symm,by simpa [eB,put,e] using hn⟩
  have hL:∀ n,(c.move g0 k ni b w').L n→n=g0∨n≠g0∧k≠some n∧c.L n:=by
    intro n hn
    by_cases e:n=g0
    · exact .inl e
    · have hn':(eB c.m k n).isSome=true:=by simpa [Ctx.L,Ctx.move,put,e] using hn
      obtain ⟨b',hb'⟩:=Zx.1 hn'
      obtain ⟨h1,h2⟩:=hkm n b' hb'
      exact .inr ⟨e,h1,by simp [Ctx.L,h2]⟩
  have hρ:∀ n,n≠g0→(c.move g0 k ni b w').ρ n=c.ρ n:=fun n e=>by simp [Ctx.move,put,e]
  have hρg:(c.move g0 k ni b w').ρ g0=ni:=by simp [Ctx.move]
  have hs:St c (c.move g0 k ni b w'):=by
    refine ⟨hos,htape,hout,hsz,fun i hi hn=>hoth i hi (fun g e e'=>hn ⟨g,hk g e,e'.symm⟩),rfl,fun i hi ⟨n,h1,h2⟩=>?_,fun n hn=>.inr hn,fun n hU hl=>?_⟩
    · rcases hL n h1 with e | ⟨e,_,hl⟩
      · subst e
        rw [hρg] at h2
        rcases hblk with h3 | ⟨g,h3,h4⟩
        · omega
        · exact ⟨g,hk g h3,h4.symm.trans h2⟩
      · exact ⟨n,hl,by rw [hρ n e] at h2; exact h2⟩
    · rcases hL n hl with e | ⟨e,_,hl'⟩
      · subst e; exact absurd hU hg
      · exact ⟨hl',hρ n e⟩
  refine ⟨Gd.mk' (fun n hn=>?_) (fun n q hn hq he=>?_) (fun n hn=>?_) (fun n hn=>?_) (fun n b' hm'=>?_) (fun i hi=>AN (h.flt i hi) hsz),hs⟩
  · rcases hL n hn with e | ⟨e,_,hl⟩
    · subst e; rw [hρg]; exact hlt
    · rw [hρ n e]; exact AN (h.lt n hl) hsz
  · have far:∀ q,k≠some q→c.L q→ni.blk≠(c.ρ q).blk:=by
      intro q hq hl e
      rcases hblk with h3 | ⟨g,h3,h4⟩
      · have:=h.lt q hl; omega
      · exact hq (by rw [h3]; exact congrArg some (h.inj g q (hk g h3) hl (h4.symm.trans e)))
    rcases hL n hn with e | ⟨e,e2,hl⟩ <;> rcases hL q hq with e' | ⟨e',e2',hl'⟩
    · rw [e,e']
    · subst e; rw [hρg,hρ q e'] at he; exact absurd he (far q e2' hl')
    · subst e'; rw [hρg,hρ n e] at he; exact absurd he.symm (far n e2 hl)
    · rw [hρ n e,hρ q e'] at he; exact h.inj n q hl hl' he
  · rcases hL n hn with e | ⟨e,_,hl⟩
    · subst e; rw [hρg]
      rcases hblk with h3 | ⟨g,h3,h4⟩
      · intro hF; have:=h.flt _ hF; omega
      · rw [h4]; exact h.notF g (hk g h3)
    · rw [hρ n e]; exact h.notF n hl
  · rcases hL n hn with e | ⟨e,_,hl⟩
    · exact .inl e
    · exact .inr (h.used n hl)
  · by_cases e:n=g0
    · subst e
      obtain rfl:b=b':=by simpa [Ctx.move] using hm'
      exact ⟨o,by rw [hρg]; exact hat,by rw [hρg]; exact hb.mono hs⟩
    · obtain ⟨e2,hm1⟩:=hkm n b' (by simpa [Ctx.move,put,e] using hm')
      obtain ⟨o',h1,h2⟩:=h.blk hm1
      have hl:c.L n:=by simp [Ctx.L,hm1]
      refine ⟨o',?_,by rw [hρ n e]; exact h2.mono hs⟩
      rw [hρ n e]
      refine (hoth _ (h.lt n hl) (fun g h3 e'=>?_)).trans h1
      exact e2 (by rw [h3]; exact congrArg some (h.inj n g hl (hk g h3) e').symm)


inductive Opd where
  | tmp (t:Nat)
  | const (x:AV)
  | func (f:FuncId)
  deriving Inhabited

def Opd.eval (env:List AV):Opd→AV
  | .tmp t=>env.getD t .und
  | .const x=>x
  | .func f=>.fn (.func f) [] []

inductive CK where | int (k:IntKind) | bool
  deriving DecidableEq

inductive AOp where
  | mv (x:Opd)
  | pick (c a b:Opd)
  | ext (x:Opd) (i:Nat)
  | not (x:Opd)
  | bin (op:BinOp) (x y:Opd)
  | eqb (dU:Bool) (x y:Opd)
  | eqs (dU:Bool) (ks:List CK) (x y:Opd)
  | eqn (dU:Bool) (x:Opd)
  | conv (k:IntKind) (x:Opd)
  | faddr (off:Nat) (x:Opd)
  | fld (off n:Nat) (agg:Bool) (x:Opd)
  | iaddr (sz:Nat) (x i:Opd)
  | aaddr (len sz:Nat) (x i:Opd)
  | nilchk (x:Opd)
  | build (zero:List AV) (parts:List (Nat×Nat×Opd))
  | mkfn (f:Fn) (first captured:List Opd)
  | mkif (t:TypeId) (x:Opd)
  | tassert (t:TypeId) (ok:Bool) (x:Opd)
  | slc (sz:Nat) (x:Opd) (lo hi:Option Opd)
  | len (x:Opd)
  | mn (x y:Opd)
  | mx (x y:Opd)
  | app (t:TypeId) (sz bytes:Nat) (s x:Opd)
  | cpy (sz:Nat) (d s:Opd)
  | ld (n:Nat) (agg:Bool) (x:Opd)
  | st (n:Nat) (x v:Opd)
  | lkp (zero:AV) (ok:Bool) (mp k:Opd)
  | mupd (mp k v:Opd)
  | mdel (mp k:Opd)
  | alloc (t:TypeId) (zero:List AV)
  | box (t:TypeId) (x:Opd)
  | bslice (t:TypeId) (sz n:Nat) (parts:List Opd)
  | mkmap
  | mkslice (t:TypeId) (sz:Nat) (zero:List AV) (bytes:Nat) (l c:Opd)
  | call (f:FuncId) (args:List Opd)
  | callv (f:Opd) (args:List Opd)
  | invoke (x:Opd) (tb:List (Nat×Nat)) (args:List Opd)
  deriving Inhabited

structure OR where
  v:AV
  ups:List (Nat×Option Blk):=[]
  rd:List Nat:=[]

def ups (m:Nat→Option Blk):List (Nat×Option Blk)→Nat→Option Blk
  | []=>m
  | (g,b) :: l=>ups (put m g b) l

def doExt:AV→Nat→Option AV
  | .tup vs,i=>vs[i]?
  | _,_=>none
def doNot:AV→Option AV
  | .bool b=>some (.bool !b)
  | _=>none
def jB (op:BinOp) (k:IntKind) (a b:Int):Option AV :=
  match op with
  | .add=>some (.int k (k.wrap (a+b)))
  | .sub=>some (.int k (k.wrap (a - b)))
  | .mul=>some (.int k (k.wrap (a * b)))
  | .quo=>if b=0 then none else some (.int k (k.wrap (a.tdiv b)))
  | .rem=>if b=0 then none else some (.int k (a.tmod b))
  | .shl=>if b<0 then none else some (.int k (k.wrap (a * 2 ^ (min b.toNat k.bits))))
  | .eql=>some (.bool (decide (a=b)))
  | .neq=>some (.bool (!decide (a=b)))
  | .lss=>some (.bool (decide (a<b)))
  | .leq=>some (.bool (decide (a≤b)))
  | .gtr=>some (.bool (decide (a > b)))
  | .geq=>some (.bool (decide (a≥b)))
  | _=>none
def iX (op:BinOp):AV→AV→Option AV
  | .int k a,.int k' b=>if k=k' then jB op k a b else none
  | _,_=>none
def neg? (dU b:Bool):Bool:=if dU then !b else b
def doEqb (dU:Bool):AV→AV→Option AV
  | .bool a,.bool b=>some (.bool (neg? dU (a == b)))
  | _,_=>none
def cellsEq:List AV→List AV→Option Bool
  | [],[]=>some true
  | .int k a :: xs,.int k' b :: ys=>if k=k' then (cellsEq xs ys).map fun r=>decide (a=b) && r else none
  | .bool a :: xs,.bool b :: ys=>(cellsEq xs ys).map fun r=>(a == b) && r
  | _,_=>none
def kindOk:List CK→List AV→Bool
  | [],[]=>true
  | .int k :: ks,.int k' _ :: xs=>decide (k=k') && kindOk ks xs
  | .bool :: ks,.bool _ :: xs=>kindOk ks xs
  | _,_=>false
def aL (dU:Bool) (ks:List CK):AV→AV→Option AV
  | .agg xs,.agg ys=>if kindOk ks xs && kindOk ks ys then (cellsEq xs ys).map fun r=>.bool (neg? dU r) else none
  | _,_=>none
def gU (m:Nat→Option Blk) (dU:Bool):AV→Option OR
  | .slnil=>some { v:=.bool (neg? dU true) }
  | .sle _=>some { v:=.bool (neg? dU false) }
  | .slv _ (_ :: _)=>some { v:=.bool (neg? dU false) }
  | .slm g _=>match m g with
    | some _=>some { v:=.bool (neg? dU false),rd:=[g] }
    | none=>none
  | _=>none
def lY (k:IntKind):AV→Option AV
  | .int _ n=>some (.int k (k.wrap n))
  | _=>none
def fG (off:Nat):AV→Option AV
  | .ptr g row o=>some (.ptr g row (o+off))
  | .pv cells=>some (.pv (cells.drop off))
  | _=>none
def part (off n:Nat) (agg:Bool) (cells:List AV):Option AV :=
  if off+n≤cells.length then (if agg then some (.agg ((cells.drop off).take n)) else if n=1 then cells[off]? else none) else none
def doFld (off n:Nat) (agg:Bool):AV→Option AV
  | .agg cells=>part off n agg cells
  | _=>none
def cE (m:Nat→Option Blk) (sz:Nat):AV→AV→Option OR
  | .slm g len,.int _ i=>match m g with
    | some (.rows _ sz' _)=>if sz'=sz∧0≤i∧i<len then some { v:=.ptr g i.toNat 0,rd:=[g] } else none
    | _=>none
  | .slv sz' rows,.int _ i=>if sz'=sz∧0≤i∧i<rows.length then some { v:=.pv (rows.getD i.toNat []) } else none
  | _,_=>none
def gD (len sz:Nat):AV→AV→Option AV
  | .ptr g row o,.int _ i=>if 0≤i∧i<len then some (.ptr g row (o+i.toNat * sz)) else none
  | .pv cells,.int _ i=>if 0≤i∧i<len then some (.pv (cells.drop (i.toNat * sz))) else none
  | _,_=>none
def doNilchk:AV→Option AV
  | .ptr g r o=>some (.ptr g r o)
  | .pv cells=>some (.pv cells)
  | .fn (.func f) a b=>some (.fn (.func f) a b)
  | _=>none
def aF (cells:List AV) (off:Nat) (p:List AV):List AV:=cells.take off ++ p ++ cells.drop (off+p.length)
def fillA (cells:List AV):List (Nat×Nat×AV)→Option (List AV)
  | []=>some cells
  | (off,n,x) :: rest=>if x.cells.length=n∧off+n≤cells.length∧x.cells.all AV.one then fillA (aF cells off x.cells) rest else none
def doBuild (zero:List AV) (parts:List (Nat×Nat×AV)):Option AV:=if zero.all AV.one then (fillA zero parts).map .agg else none
def fR (t:TypeId) (ok:Bool):AV→Option AV
  | .iface t' x=>if t'=t then some (if ok then .tup [x,.bool true] else x) else none
  | _=>none
def gO (m:Nat→Option Blk) (g0 sz:Nat):AV→Option AV→Option AV→Option OR
  | .slv sz' rows,lo,hi=>match (match lo with | none=>some (0:Int) | some (.int _ l)=>some l | _=>none),(match hi with | none=>some (rows.length:Int) | some (.int _ h)=>some h | _=>none) with
    | some l,some h=>if sz'=sz∧0≤l∧l≤h∧h≤rows.length then some { v:=.slv sz ((rows.drop l.toNat).take (h.toNat - l.toNat)) } else none
    | _,_=>none
  | .slm g len,none,some (.int _ h)=>match m g with
    | some (.rows t sz' rs)=>if sz'=sz∧0≤h∧h≤len∧len=rs.length then some { v:=.slm g0 h.toNat,ups:=[(g,none),(g0,some (.rows t sz (rs.take h.toNat)))],rd:=[g] } else none
    | _=>none
  | _,_,_=>none
def dP (m:Nat→Option Blk):AV→Option OR
  | .slnil=>some { v:=.int .i64 0 }
  | .sle _=>some { v:=.int .i64 0 }
  | .slv _ rows=>some { v:=.int .i64 rows.length }
  | .slm g len=>match m g with
    | some (.rows _ _ rs)=>if len≤rs.length then some { v:=.int .i64 len,rd:=[g] } else none
    | _=>none
  | _=>none
def pB:AV→AV→Option AV
  | .int k a,.int k' b=>if k=k' then some (.int k (if b<a then b else a)) else none
  | _,_=>none
def pC:AV→AV→Option AV
  | .int k a,.int k' b=>if k=k' then some (.int k (if a<b then b else a)) else none
  | _,_=>none
def rowsOf (m:Nat→Option Blk) (sz:Nat):AV→Option (List (List AV)×List Nat)
  | .slnil=>some ([],[])
  | .sle _=>some ([],[])
  | .slv sz' rows=>if sz'=sz then some (rows,[]) else none
  | .slm g len=>match m g with
    | some (.rows _ sz' rs)=>if sz'=sz∧len≤rs.length then some (rs.take len,[g]) else none
    | _=>none
  | _=>none
def doApp (m:Nat→Option Blk) (g0:Nat) (t:TypeId) (sz bytes:Nat) (s x:AV):Option OR :=
  match rowsOf m sz x with
  | none=>none
  | some (xs,rd)=>match s with
    | .slnil=>if xs.length * bytes≤140737488355328∧xs.length≤9223372036854775807∧xs≠[] then some { v:=.slm g0 xs.length,ups:=[(g0,some (.rows t sz xs))],rd:=rd } else none
    | .slm g len=>match m g with
      | some (.rows t' sz' rs)=>if t'=t∧sz'=sz∧len=rs.length∧(rs.length+xs.length) * bytes≤140737488355328∧rs.length+xs.length≤9223372036854775807 then
          some { v:=.slm g0 (rs.length+xs.length),ups:=[(g,none),(g0,some (.rows t sz (rs ++ xs)))],rd:=g :: rd } else none
      | _=>none
    | _=>none
def jU (m : Nat→Option Blk) (sz:Nat) (d s:AV):Option OR :=
  match rowsOf m sz s with
  | none=>none
  | some (xs,rd)=>match d with
    | .slm g len=>match m g with
      | some (.rows t sz' rs)=>if sz'=sz∧len=rs.length∧g∉rd then
          some { v:=.int .i64 (min xs.length len),ups:=[(g,some (.rows t sz (xs.take len ++ rs.drop xs.length)))],rd:=g :: rd } else none
      | _=>none
    | _=>none
def aZ (m:Nat→Option Blk) (n:Nat) (agg:Bool):AV→Option OR
  | .ptr g row o=>match m g with
    | some (.rows _ _ rs)=>match rs[row]? with
      | some r=>(part o n agg r).map fun v=>{ v:=v,rd:=[g] }
      | none=>none
    | _=>none
  | .pv cells=>(part 0 n agg cells).map fun v=>{ v:=v }
  | _=>none
def bJ (m:Nat→Option Blk) (n:Nat) (x v:AV):Option OR :=
  match x with
  | .ptr g row o=>match m g with
    | some (.rows t sz rs)=>match rs[row]? with
      | some r=>if v.cells.length=n∧o+n≤r.length∧v.cells.all AV.one then some { v:=.und,ups:=[(g,some (.rows t sz (rs.set row (aF r o v.cells))))],rd:=[g] } else none
      | none=>none
    | _=>none
  | _=>none
def fI:AV→AV→Option Bool
  | .int k a,.int k' b=>if k=k' then some (decide (a=b)) else none
  | _,_=>none
def fJ (k:AV):List (AV×AV)→Option (Option (Nat×AV))
  | []=>some none
  | (k',v) :: es=>match fI k k' with
    | some true=>some (some (0,v))
    | some false=>(fJ k es).map fun r=>r.map fun (i,v)=>(i+1,v)
    | none=>none
def AV.isInt:AV→Bool
  | .int _ _=>true
  | _=>false
def gV (m:Nat→Option Blk) (zero:AV) (ok:Bool) (mp k:AV):Option OR :=
  match mp with
  | .mapm g=>match m g with
    | some (.mp es)=>if k.isInt then (fJ k es).map fun r=>{ v:=(match r with | some (_,v)=>if ok then .tup [v,.bool true] else v | none=>if ok then .tup [zero,.bool false] else zero),rd:=[g] } else none
    | _=>none
  | .mapnil=>if k.isInt then some { v:=if ok then .tup [zero,.bool false] else zero } else none
  | _=>none
def fL (m:Nat→Option Blk) (mp k v:AV):Option OR :=
  match mp with
  | .mapm g=>match m g with
    | some (.mp es)=>if k.isInt then (fJ k es).map fun r=>{ v:=.und,ups:=[(g,some (.mp (match r with | some (i,_)=>es.set i (k,v) | none=>es ++ [(k,v)])))],rd:=[g] } else none
    | _=>none
  | _=>none
def kK (m:Nat→Option Blk) (mp k:AV):Option OR :=
  match mp with
  | .mapm g=>match m g with
    | some (.mp es)=>if k.isInt then (fJ k es).map fun r=>{ v:=.tup [],ups:=[(g,some (.mp (match r with | some (i,_)=>es.eraseIdx i | none=>es)))],rd:=[g] } else none
    | _=>none
  | _=>none
def doBox (g0:Nat) (t:TypeId) (cells:List AV):Option OR :=
  if cells.all AV.one then some { v:=.ptr g0 0 0,ups:=[(g0,some (.rows t cells.length [cells]))] } else none
def aX (g0:Nat) (t:TypeId) (sz n:Nat) (parts:List AV):Option OR :=
  if parts.length=n∧n≤1000∧(parts.all fun x=>decide (x.cells.length=sz) && x.cells.all AV.one) then some { v:=.slm g0 n,ups:=[(g0,some (.rows t sz (parts.map AV.cells)))] } else none
def iJ (g0:Nat) (t:TypeId) (sz:Nat) (zero:List AV) (bytes:Nat):AV→AV→Option OR
  | .int .i64 l,.int .i64 c=>if l=c∧0≤l∧l * bytes≤140737488355328∧l≤9223372036854775807∧zero.all AV.one∧zero.length=sz then
      some { v:=.slm g0 l.toNat,ups:=[(g0,some (.rows t sz (BZ l.toNat zero)))] } else none
  | _,_=>none

def dT (m:Nat→Option Blk):AV→Option (List Nat)
  | .ptr g _ _=>if (m g).isSome then some [g] else none
  | _=>some []

def aop (m:Nat→Option Blk) (env:List AV) (g0:Nat):AOp→Option OR
  | .mv x=>some { v:=x.eval env }
  | .pick c a b=>match c.eval env with
    | .bool t=>some { v:=if t then a.eval env else b.eval env }
    | _=>none
  | .ext x i=>(doExt (x.eval env) i).map fun v=>{ v:=v }
  | .not x=>(doNot (x.eval env)).map fun v=>{ v:=v }
  | .bin op x y=>(iX op (x.eval env) (y.eval env)).map fun v=>{ v:=v }
  | .eqb dU x y=>(doEqb dU (x.eval env) (y.eval env)).map fun v=>{ v:=v }
  | .eqs dU ks x y=>(aL dU ks (x.eval env) (y.eval env)).map fun v=>{ v:=v }
  | .eqn dU x=>gU m dU (x.eval env)
  | .conv k x=>(lY k (x.eval env)).map fun v=>{ v:=v }
  | .faddr off x=>(dT m (x.eval env)).bind fun rd=>(fG off (x.eval env)).map fun v=>{ v:=v,rd:=rd }
  | .fld off n agg x=>(doFld off n agg (x.eval env)).map fun v=>{ v:=v }
  | .iaddr sz x i=>cE m sz (x.eval env) (i.eval env)
  | .aaddr len sz x i=>(dT m (x.eval env)).bind fun rd=>(gD len sz (x.eval env) (i.eval env)).map fun v=>{ v:=v,rd:=rd }
  | .nilchk x=>(dT m (x.eval env)).bind fun rd=>(doNilchk (x.eval env)).map fun v=>{ v:=v,rd:=rd }
  | .build zero parts=>(doBuild zero (parts.map fun (o,n,x)=>(o,n,x.eval env))).map fun v=>{ v:=v }
  | .mkfn f a b=>some { v:=.fn f (a.map (·.eval env)) (b.map (·.eval env)) }
  | .mkif t x=>some { v:=.iface t (x.eval env) }
  | .tassert t ok x=>(fR t ok (x.eval env)).map fun v=>{ v:=v }
  | .slc sz x lo hi=>gO m g0 sz (x.eval env) (lo.map (·.eval env)) (hi.map (·.eval env))
  | .len x=>dP m (x.eval env)
  | .mn x y=>(pB (x.eval env) (y.eval env)).map fun v=>{ v:=v }
  | .mx x y=>(pC (x.eval env) (y.eval env)).map fun v=>{ v:=v }
  | .app t sz bytes s x=>doApp m g0 t sz bytes (s.eval env) (x.eval env)
  | .cpy sz d s=>jU m sz (d.eval env) (s.eval env)
  | .ld n agg x=>aZ m n agg (x.eval env)
  | .st n x v=>bJ m n (x.eval env) (v.eval env)
  | .lkp zero ok mp k=>gV m zero ok (mp.eval env) (k.eval env)
  | .mupd mp k v=>fL m (mp.eval env) (k.eval env) (v.eval env)
  | .mdel mp k=>kK m (mp.eval env) (k.eval env)
  | .alloc t zero=>doBox g0 t zero
  | .box t x=>doBox g0 t (x.eval env).cells
  | .bslice t sz n parts=>aX g0 t sz n (parts.map (·.eval env))
  | .mkmap=>some { v:=.mapm g0,ups:=[(g0,some (.mp []))] }
  | .mkslice t sz zero bytes l c=>iJ g0 t sz zero bytes (l.eval env) (c.eval env)
  | .call _ _ | .callv _ _ | .invoke _ _ _=>none

set_option linter.unusedSimpArgs false

theorem fS (k:IntKind) (n:Int):sL k (k.wrap n):=by
  cases k <;> simp [sL,IntKind.wrap,IntKind.min,IntKind.max,IntKind.signed,IntKind.bits] <;> (try split) <;> omega

theorem wL {k:IntKind} {a b:Int} (ha:sL k a):sL k (a.tmod b):=by
  have h1:a.tmod b≤a.natAbs:=Int.le_trans Int.le_natAbs (by rw [Int.natAbs_tmod]; exact Int.ofNat_le.2 (Nat.mod_le _ _))
  have h2:-(a.natAbs:Int)≤a.tmod b:=by
    have:((a.tmod b).natAbs:Int)≤a.natAbs:=by rw [Int.natAbs_tmod]; exact Int.ofNat_le.2 (Nat.mod_le _ _)
    omega
  have h3:0≤a→0≤a.tmod b:=fun h=>Int.tmod_nonneg _ h
  have h4:a≤0→a.tmod b≤0:=fun h=>by
    have:=Int.tmod_nonneg (a:=-a) b (by omega)
    rw [Int.neg_tmod] at this; omega
  unfold sL at *
  cases k <;> simp [IntKind.min,IntKind.max,IntKind.signed,IntKind.bits] at ha ⊢ <;> omega

theorem oH {n:Nat} (h:n≤maxLen):sL .i64 (n:Int):=by
  unfold maxLen at h
  simp [sL,IntKind.min,IntKind.max,IntKind.signed,IntKind.bits]
  omega

variable {P:Program} {c:Ctx}

theorem zZ {x:AV} {v:Value} {i:Nat} {r:AV} (hx:VR c x v) (h:doExt x i=some r) (w:World):∃ u,(Instr.extract v i).run P w=.ok u w∧VR c r u:=by
  cases hx with
  | tup cells vs h1 h2 =>
    simp only [doExt] at h
    have hl:i<vs.size:=by rw [← h1]; exact (Zw.1 h).1
    refine ⟨vs[i],?_,?_⟩
    · simp [Instr.extract,hl]
    · have:=h2 i r h
      simpa [Zp,hl] using this
  | _=>simp [doExt] at h

theorem Aj {x:AV} {v:Value} {r:AV} (hx:VR c x v) (h:doNot x=some r) (w:World):∃ u,(Op.unary .not v).run P w=.ok u w∧VR c r u:=by
  cases hx with
  | bool b=>simp only [doNot,Zn] at h; subst h; exact ⟨_,rfl,.bool _⟩
  | _=>simp [doNot] at h

theorem zJ {op:BinOp} {t:TypeId} {x y:AV} {v u:Value} {r:AV} (hx:VR c x v) (hy:VR c y u) (h:iX op x y=some r) (w:World) :
    ∃ z,(binOp op t v u).run P w=.ok z w∧VR c r z:=by
  cases hx with
  | int k a ha =>
    cases hy with
    | int k' b hb =>
      simp only [iX] at h
      split at h
      · rename_i hk; subst hk
        cases op <;> simp only [jB,Zn,reduceCtorEq] at h
        case add=>subst h; exact ⟨_,by simp [binOp,Op.intArith],.int _ _ (fS _ _)⟩
        case sub=>subst h; exact ⟨_,by simp [binOp,Op.intArith],.int _ _ (fS _ _)⟩
        case mul=>subst h; exact ⟨_,by simp [binOp,Op.intArith],.int _ _ (fS _ _)⟩
        case quo =>
          split at h
          · cases h
          · rename_i hb0; obtain rfl:=Zm h; exact ⟨_,by simp [binOp,Op.intDiv,hb0],.int _ _ (fS _ _)⟩
        case rem =>
          split at h
          · cases h
          · rename_i hb0; obtain rfl:=Zm h; exact ⟨_,by simp [binOp,Op.intDiv,hb0],.int _ _ (wL ha)⟩
        case shl =>
          split at h
          · cases h
          · rename_i hb0; obtain rfl:=Zm h; exact ⟨_,by simp [binOp,Op.shift,hb0],.int _ _ (fS _ _)⟩
        case eql=>subst h; exact ⟨_,by simp [binOp,Op.intCmp]; rfl,.bool _⟩
        case neq=>subst h; exact ⟨_,by simp [binOp,Op.intCmp]; rfl,.bool _⟩
        case lss=>subst h; exact ⟨_,by simp [binOp,Op.intCmp],.bool _⟩
        case leq=>subst h; exact ⟨_,by simp [binOp,Op.intCmp],.bool _⟩
        case gtr=>subst h; exact ⟨_,by simp [binOp,Op.intCmp],.bool _⟩
        case geq=>subst h; exact ⟨_,by simp [binOp,Op.intCmp],.bool _⟩
      · cases h
    | _=>simp [iX] at h
  | _=>simp [iX] at h

theorem oE {t:TypeId} (ht:P.underlying t=some .bool) (d:Nat) (a b:Bool) (w:World):(Op.equalIn (d+1) t (.bool a) (.bool b)).run P w=.ok (a == b) w:=by
  simp [Op.equalIn,run_underlying ht]
theorem kL {t e:TypeId} (ht:P.underlying t=some (.slice e)) (d:Nat) (a:Option Addr) (n k:Nat) (w:World):(Op.equalIn (d+1) t (.slice a n k) (.slice none 0 0)).run P w=.ok a.isNone w:=by
  cases a <;> simp [Op.equalIn,run_underlying ht]
theorem gS {t:TypeId} {v u:Value} (dU b:Bool) (w:World) (h1:binOp .eql t v u=(do pure (.bool (← Op.equal t v u)))) (h2:binOp .neq t v u=(do pure (.bool (!(← Op.equal t v u)))))
    (h:(Op.equalIn (9999+1) t v u).run P w=.ok b w):(binOp (if dU then .neq else .eql) t v u).run P w=.ok (.bool (neg? dU b)) w:=by
  have h':(Op.equal t v u).run P w=.ok b w:=h
  cases dU
  · simp only [AK,if_false,h1,Sem.run_bind,h',Result.andThen_ok,neg?]; rfl
  · simp only [if_true,h2,Sem.run_bind,h',Result.andThen_ok,neg?]; rfl

theorem zW {dU:Bool} {t:TypeId} {x y:AV} {v u:Value} {r:AV} (ht:P.underlying t=some .bool) (hx:VR c x v) (hy:VR c y u) (h:doEqb dU x y=some r) (w:World) :
    ∃ z,(binOp (if dU then .neq else .eql) t v u).run P w=.ok z w∧VR c r z:=by
  cases hx with
  | bool a =>
    cases hy with
    | bool b =>
      simp only [doEqb,Zn] at h; subst h
      exact ⟨_,gS dU _ w rfl rfl (oE ht 9999 a b w),.bool _⟩
    | _=>simp [doEqb] at h
  | _=>simp [doEqb] at h

theorem zX {dU:Bool} {t e:TypeId} {x:AV} {v:Value} {r:OR} (ht:P.underlying t=some (.slice e)) (hx:VR c x v) (h:gU c.m dU x=some r) (w:World) :
    r.ups=[]∧∃ z,(binOp (if dU then .neq else .eql) t v (.slice none 0 0)).run P w=.ok z w∧VR c r.v z:=by
  have key:∀ (a:Option Addr) (n k:Nat),(binOp (if dU then .neq else .eql) t (.slice a n k) (.slice none 0 0)).run P w=.ok (.bool (neg? dU a.isNone)) w :=
    fun a n k=>gS dU _ w rfl rfl (kL ht 9999 a n k w)
  cases hx with
  | slnil=>simp only [gU,Zn] at h; subst h; exact ⟨rfl,_,key none 0 0,.bool _⟩
  | sle sz a cap hc=>simp only [gU,Zn] at h; subst h; exact ⟨rfl,_,key (some a) 0 cap,.bool _⟩
  | slvs sz rows a cap us h0 =>
    cases rows with
    | nil=>exact absurd rfl h0
    | cons r0 rest=>simp only [gU,Zn] at h; subst h; exact ⟨rfl,_,key (some a) _ cap,.bool _⟩
  | slm g len a n cap hU hL =>
    simp only [gU] at h
    split at h
    · rename_i hg
      simp only [Zn] at h; subst h
      obtain ⟨rfl,_,_⟩:=hL (by simp [Ctx.L,hg])
      exact ⟨rfl,_,key (some _) n cap,.bool _⟩
    · cases h
  | _=>simp [gU] at h

theorem vV {src dst:TypeId} {k:IntKind} {x:AV} {v:Value} {r:AV} (hs:(P.underlying src).isSome=true) (hd:P.underlying dst=some (.int k)) (hx:VR c x v) (h:lY k x=some r) (w:World) :
    ∃ z,(convert src dst v).run P w=.ok z w∧VR c r z:=by
  cases hx with
  | int k' n hn =>
    simp only [lY,Zn] at h; subst h
    obtain ⟨d,hd'⟩:=Option.isSome_iff_exists.mp hs
    exact ⟨_,by simp [convert,run_underlying hd',run_underlying hd,Conv.intToInt],.int _ _ (fS _ _)⟩
  | _=>simp [lY] at h

theorem eI (a:Addr) (i j:Nat):(a.add i).add j=a.add (i+j):=by
  unfold Addr.add
  by_cases hi:i=0 <;> by_cases hj:j=0 <;> simp [hi,hj,FF]
theorem cS (g i j:Nat):(⟨g,i,none⟩:Addr).add j=⟨g,i+j,none⟩:=by unfold Addr.add; split <;> simp_all

theorem tV {s:TypeId} {fs:Array Field} {fi:Nat} {f:Field} {n:Nat} {x:AV} {v:Value} {r:AV} (hs:P.underlying s=some (.struct fs)) (hf:fs[fi]?=some f)
    (hn:(P.info? f.type).map (·.size)=some n) (hn0:n≠0) (hx:VR c x v) (hL:∀ g row o,x=.ptr g row o→c.L g) (h:fG f.offset x=some r) (w:World) :
    ∃ z,(Instr.fieldAt s v fi).run P w=.ok z w∧VR c r z:=by
  obtain ⟨i,hi,hin⟩:∃ i,P.info? f.type=some i∧i.size=n:=by
    cases hq:P.info? f.type with
    | none=>simp [hq] at hn
    | some i=>exact ⟨i,rfl,by simpa [hq] using hn⟩
  have run:∀ a:Addr,(Instr.fieldAt s (.pointer (some a)) fi).run P w=.ok (.pointer (some (a.add f.offset))) w:=by
    intro a
    simp [Instr.fieldAt,run_underlying hs,hf,Instr.sureAddr,fieldPlace,sizeOf,typeInfo,hi,hin,hn0]
  cases hx with
  | ptr g row o a hU hA =>
    simp only [fG,Zn] at h; subst h
    have ha:=hA (hL g row o rfl)
    subst ha
    exact ⟨_,run _,.ptr _ _ _ _ hU (fun _=>by rw [cS,FF])⟩
  | pv cells a us hB hb hc h1 hv =>
    simp only [fG,Zn] at h; subst h
    refine ⟨_,run a,.pv _ _ (fun j=>us (f.offset+j)) (by rwa [bU]) (by rwa [bU]) (fun j y hj=>?_) (fun j y hj=>?_) (fun j y hj=>?_)⟩
    · rw [eI]; exact hc _ y (by rwa [AU] at hj)
    · exact h1 _ y (by rwa [AU] at hj)
    · exact hv _ y (by rwa [AU] at hj)
  | _=>simp [fG] at h

variable {P:Program} {c:Ctx}

def mU:TypeDesc→Bool
  | .struct _ | .array _ _=>true
  | _=>false

theorem fW {t:TypeId} {d:TypeDesc} (h:P.underlying t=some d) (w:World):(isAgg t).run P w=.ok (mU d) w:=by
  simp only [isAgg,Sem.run_bind,run_underlying h,Result.andThen_ok]
  cases d <;> rfl
theorem bH {t : TypeId} {n:Nat} (h:(P.info? t).map (·.size)=some n) (w:World):(sizeOf t).run P w=.ok n w:=by
  cases hq:P.info? t with
  | none=>simp [hq] at h
  | some i => have:i.size=n:=by simpa [hq] using h
              simp [sizeOf,typeInfo,hq,this]

def CellsAt (c:Ctx) (a:Addr) (cells:List AV):Prop:=∀ (i:Nat) (x:AV),cells[i]?=some x→∃ u,c.w.cell? (a.add i)=some u∧x.one=true∧VR c x u

theorem CellsAt.drop {a:Addr} {cells:List AV} (h:CellsAt c a cells) (k:Nat):CellsAt c (a.add k) (cells.drop k):=fun i x hi=>by
  rw [AU] at hi
  obtain ⟨u,h1,h2⟩:=h _ x hi
  exact ⟨u,by rwa [eI],h2⟩
theorem CellsAt.take {a:Addr} {cells:List AV} (h:CellsAt c a cells) (k:Nat):CellsAt c a (cells.take k):=fun i x hi=>by
  rw [AW] at hi
  split at hi
  · exact h i x hi
  · cases hi

theorem CellsAt.vals {a:Addr} {cells:List AV} (h:CellsAt c a cells):∃ us:List Value,us.length=cells.length∧(∀ j v,us[j]?=some v→c.w.cell? (a.add j)=some v) ∧
    (∀ (j:Nat) (x:AV),cells[j]?=some x→x.one=true∧VR c x (us.getD j bX)):=by
  induction cells generalizing a with
  | nil=>exact ⟨[],rfl,fun j v hj=>by simp at hj,fun j x hj=>by simp at hj⟩
  | cons y ys ih =>
    obtain ⟨u,h1,h2,h3⟩:=h 0 y rfl
    have h':=h.drop 1
    obtain ⟨us,k1,k2,k3⟩:=ih h'
    refine ⟨u :: us,by simp [k1],fun j v hj=>?_,fun j x hj=>?_⟩
    · cases j with
      | zero=>simp at hj; subst hj; exact h1
      | succ j=>simp at hj; have:=k2 j v hj; rwa [eI,Nat.add_comm] at this
    · cases j with
      | zero=>simp at hj; subst hj; exact ⟨h2,h3⟩
      | succ j=>simp at hj; simpa using k3 j x hj

theorem pO {t:TypeId} {d:TypeDesc} {n o:Nat} {a:Addr} {cells:List AV} {r:AV} (ht:P.underlying t=some d) (hn:(P.info? t).map (·.size)=some n) (H:CellsAt c a cells)
    (h:part o n (mU d) cells=some r):∃ z,(loadVar t (a.add o)).run P c.w=.ok z c.w∧VR c r z:=by
  unfold part at h
  split at h
  · rename_i hl
    cases hd:mU d with
    | true =>
      rw [hd,if_pos rfl] at h
      obtain rfl:=Zm h
      obtain ⟨us,h1,h2,h3⟩:=((H.drop o).take n).vals
      have hlen:us.length=n:=by rw [h1]; simp; omega
      refine ⟨.agg us.toArray,?_,.agg _ _ (by simp [h1]) (fun i x hi=>(h3 i x hi).1) (fun i x hi=>?_)⟩
      · have:=run_loadCells_list (P:=P) c.w (a.add o) us h2
        rw [hlen] at this
        simp only [loadVar,Sem.run_bind,fW ht,Result.andThen_ok,hd,if_true,bH hn,this,Sem.run_pure]
      · have:=(h3 i x hi).2
        simpa [Zp,Zr] using this
    | false =>
      rw [hd] at h
      simp only [AK,if_false] at h
      split at h
      · obtain ⟨u,h1,h2,h3⟩:=H o r h
        refine ⟨u,?_,h3⟩
        simp only [loadVar,Sem.run_bind,fW ht,Result.andThen_ok,hd,AK,if_false,run_load,h1]
      · cases h
  · cases h

theorem Gd.cellsAt (hc:Gd c) {g row:Nat} {t:TypeId} {sz:Nat} {rs:List (List AV)} {r:List AV} (hm:c.m g=some (.rows t sz rs)) (hr:rs[row]?=some r) :
    CellsAt c ⟨(c.ρ g).blk,row * (c.ρ g).sz,none⟩ r:=by
  obtain ⟨cs,h1,h2,h3,h4,h5,h7⟩:=hc.rows g t sz rs hm
  obtain ⟨hl,hv⟩:=h7 row r hr
  intro i x hi
  obtain ⟨ho,hx⟩:=hv i x hi
  have hrow:row<rs.length:=(Zw.1 hr).1
  have hi':i<sz:=by rw [← hl]; exact (Zw.1 hi).1
  have hlt:row * sz+i<cs.size:=by
    rw [h3]
    calc row * sz+i<row * sz+sz:=by omega
      _=(row+1) * sz:=by rw [BJ,CC]
      _≤(c.ρ g).cap * sz:=AI _ (by omega)
  refine ⟨cs[row * sz+i],?_,ho,?_⟩
  · rw [cS,h2]; simp [World.cell?,h1,hlt]
  · simpa [Zp,hlt] using hx

theorem wZ {cells:List AV} {a:Addr} (h:VR c (.pv cells) (.pointer (some a))):CellsAt c a cells:=by
  cases h with
  | pv cells a us hB hb hc h1 hv=>exact fun i x hi=>⟨us i,hc i x hi,h1 i x hi,hv i x hi⟩

theorem VR.pv_inv {cells:List AV} {v:Value} (h:VR c (.pv cells) v):∃ a,v=.pointer (some a):=by
  cases h with
  | pv cells a us hB hb hc h1 hv=>exact ⟨a,rfl⟩

theorem wR {t:TypeId} {d:TypeDesc} {n:Nat} {x:AV} {v:Value} {r:OR} (hc:Gd c) (ht:P.underlying t=some d) (hn:(P.info? t).map (·.size)=some n) (hx:VR c x v)
    (h:aZ c.m n (mU d) x=some r):r.ups=[]∧∃ z,(Instr.loadAt t v).run P c.w=.ok z c.w∧VR c r.v z:=by
  cases x with
  | ptr g row o =>
    cases hx with
    | ptr g row o a hU hA =>
      simp only [aZ] at h
      split at h
      · rename_i t' sz rs hm
        split at h
        · rename_i rr hr
          rw [Zl] at h
          obtain ⟨u,hp,rfl⟩:=h
          obtain rfl:=hA (by simp [Ctx.L,hm])
          obtain ⟨z,h1,h2⟩:=pO ht hn (hc.cellsAt hm hr) hp
          refine ⟨rfl,z,?_,h2⟩
          rw [cS] at h1
          simpa [Instr.loadAt,Instr.sureAddr] using h1
        · cases h
      · cases h
  | pv cells =>
    obtain ⟨a,rfl⟩:=hx.pv_inv
    simp only [aZ,Zl] at h
    obtain ⟨u,hp,rfl⟩:=h
    obtain ⟨z,h1,h2⟩:=pO (P:=P) ht hn (wZ hx) hp
    refine ⟨rfl,z,?_,h2⟩
    have:a.add 0=a:=by simp [Addr.add]
    rw [this] at h1
    simpa [Instr.loadAt,Instr.sureAddr] using h1
  | _=>simp [aZ] at h

theorem VR.cells_rel {x:AV} {v:Value} (hx:VR c x v) (h1:x.cells.all AV.one=true):v.cells.size=x.cells.length∧(∀ i (h:i<v.cells.size),(v.cells[i]).oneCell'=true) ∧
    ∀ (i:Nat) (y:AV),x.cells[i]?=some y→y.one=true∧VR c y (v.cells.getD i bX):=by
  by_cases hag:∃ cs,x=.agg cs
  · obtain ⟨cs,rfl⟩:=hag
    cases hx with
    | agg cells vs k1 k2 k3 =>
      refine ⟨k1.symm,fun i hi=>?_,fun i y hy=>⟨k2 i y hy,k3 i y hy⟩⟩
      have hl:i<cs.length:=by rw [k1]; exact hi
      have:=(k3 i cs[i] (Zz hl)).oneCell (k2 i _ (Zz hl))
      have hi':i<vs.size:=hi
      simpa [Value.cells,Zp,hi'] using this
  · have hcells:x.cells=[x]:=by cases x <;> first | rfl | exact absurd ⟨_,rfl⟩ hag
    have ho:x.one=true:=by rw [hcells] at h1; simpa using h1
    have hv:v.cells=#[v]:=by
      have:=hx.oneCell ho
      cases v <;> first | rfl | (simp [Value.oneCell'] at this)
    rw [hcells,hv]
    refine ⟨rfl,fun i hi=>?_,fun i y hy=>?_⟩
    · have:i=0:=by simp at hi; exact hi
      subst this; exact hx.oneCell ho
    · cases i with
      | zero=>simp at hy; subst hy; exact ⟨ho,by simpa using hx⟩
      | succ i=>simp at hy

theorem wS (l v:List Value) (o:Nat) (h:o+v.length≤l.length):∀ j,(l.take o ++ v ++ l.drop (o+v.length))[j]?=if j<o then l[j]? else if j<o+v.length then v[j - o]? else l[j]?:=by
  intro j
  have hto:(l.take o).length=o:=by simp; omega
  by_cases h1:j<o
  · rw [if_pos h1,EM,AF (by omega),AW,if_pos h1]
  · rw [if_neg h1]
    by_cases h2:j<o+v.length
    · rw [if_pos h2,AF (by simp; omega),AJ (by omega),hto]
    · rw [if_neg h2,AJ (by simp; omega),AU]
      congr 1
      simp; omega
theorem sB (l v:List AV) (o:Nat) (h:o+v.length≤l.length):∀ j,(aF l o v)[j]?=if j<o then l[j]? else if j<o+v.length then v[j - o]? else l[j]?:=by
  intro j
  unfold aF
  have hto:(l.take o).length=o:=by simp; omega
  by_cases h1:j<o
  · rw [if_pos h1,EM,AF (by omega),AW,if_pos h1]
  · rw [if_neg h1]
    by_cases h2:j<o+v.length
    · rw [if_pos h2,AF (by simp; omega),AJ (by omega),hto]
    · rw [if_neg h2,AJ (by simp; omega),AU]
      congr 1
      simp; omega
theorem iZ (l v:List AV) (o:Nat) (h:o+v.length≤l.length):(aF l o v).length=l.length:=by
  unfold aF; simp; omega

theorem Cq {t : TypeId} {n : Nat} {x y:AV} {v u:Value} {r:OR} (hc:Gd c) (hn:(P.info? t).map (·.size)=some n) (hx:VR c x v) (hy:VR c y u) (h:bJ c.m n x y=some r) :
    ∃ c',(Instr.storeAt t v u).run P c.w=.ok () c'.w∧Gd c'∧St c c'∧c'.m=ups c.m r.ups∧c'.F=c.F∧c'.U=c.U∧r.v=.und:=by
  cases x with
  | ptr g row o =>
    cases hx with
    | ptr g row o a hU hA =>
      simp only [bJ] at h
      split at h
      · rename_i t' sz rs hm
        split at h
        · rename_i rr hr
          split at h
          · rename_i hq
            obtain ⟨hq1,hq2,hq3⟩:=hq
            obtain rfl:=Zm h
            obtain rfl:=hA (by simp [Ctx.L,hm])
            obtain ⟨cs,h1,h2,h3,h4,h5,h7⟩:=hc.rows g t' sz rs hm
            obtain ⟨hrl,hrv⟩:=h7 row rr hr
            obtain ⟨k1,k2,k3⟩:=hy.cells_rel hq3
            have hrow:row<rs.length:=(Zw.1 hr).1
            have hmul:row * sz+sz≤cs.size:=by
              rw [h3]
              calc row * sz+sz=(row+1) * sz:=by rw [BJ,CC]
                _≤(c.ρ g).cap * sz:=AI _ (by omega)
            have hfit:row * sz+o+0+u.cells.toList.length≤cs.size:=by simp only [BO,k1]; omega
            have hone:∀ z∈u.cells.toList,z.oneCell'=true:=by
              intro z hz
              obtain ⟨i,hi,rfl⟩:=EB hz
              simpa using k2 i (by simpa using hi)
            have hrun:=run_storeCells_at P (c.ρ g).blk (row * sz+o) t' u.cells.toList 0 cs c.w h1 hfit hone
            have hseg:=wS cs.toList u.cells.toList (row * sz+o) (by simpa using hfit)
            rw [CT] at hrun
            generalize hnew:(cs.toList.take (row * sz+o) ++ u.cells.toList ++ cs.toList.drop (row * sz+o+u.cells.toList.length))=new at hrun hseg
            have hnl:new.length=cs.size:=by rw [← hnew]; simp; simp at hfit; omega
            have hb : BlkOk c (c.ρ g) (.cells new.toArray t' (0,0)) (.rows t' sz (rs.set row (aF rr o y.cells))):=by
              refine ⟨new.toArray,rfl,h2,by simp [hnl,h3],by simpa using h4,h5,fun i q hi=>?_⟩
              · rw [CO] at hi
                by_cases hri:row=i
                · subst hri
                  rw [if_pos rfl,if_pos hrow] at hi
                  obtain rfl:=Zm hi
                  have hol:o+y.cells.length≤rr.length:=by omega
                  refine ⟨by rw [iZ _ _ _ hol,hrl],fun j z hj=>?_⟩
                  rw [sB _ _ _ hol] at hj
                  have e:=hseg (row * sz+j)
                  split at hj
                  · rw [if_pos (by omega)] at e
                    have:=hrv j z hj
                    refine ⟨this.1,?_⟩
                    simpa [Zp,e] using this.2
                  · rw [if_neg (by omega)] at e
                    split at hj
                    · rw [if_pos (by simp only [BO,k1]; omega)] at e
                      have:=k3 _ z hj
                      refine ⟨this.1,?_⟩
                      have e2:row * sz+j - (row * sz+o)=j - o:=by omega
                      rw [e2] at e
                      simpa [Zp,e] using this.2
                    · rw [if_neg (by simp only [BO,k1]; omega)] at e
                      have:=hrv j z hj
                      refine ⟨this.1,?_⟩
                      simpa [Zp,e] using this.2
                · rw [if_neg hri] at hi
                  obtain ⟨hql,hqv⟩:=h7 i q hi
                  refine ⟨hql,fun j z hj=>?_⟩
                  have hjs:j<sz:=by rw [← hql]; exact (Zw.1 hj).1
                  have e:=hseg (i * sz+j)
                  have:=hqv j z hj
                  refine ⟨this.1,?_⟩
                  have hout:i * sz+j<row * sz+o∨¬ (i * sz+j<row * sz+o+u.cells.toList.length):=by
                    rcases Nat.lt_or_gt_of_ne hri with hlt | hgt
                    · right
                      have : row * sz+sz≤i * sz:=by
                        calc row * sz+sz=(row+1) * sz:=by rw [BJ,CC]
                          _≤i * sz:=AI _ hlt
                      simp only [BO,k1]; omega
                    · left
                      have : i * sz+sz≤row * sz:=by
                        calc i * sz+sz=(i+1) * sz:=by rw [BJ,CC]
                          _≤row * sz:=AI _ hgt
                      omega
                  rcases hout with ho | ho
                  · rw [if_pos ho] at e; simpa [Zp,e] using this.2
                  · by_cases ho2:i * sz+j<row * sz+o
                    · rw [if_pos ho2] at e; simpa [Zp,e] using this.2
                    · rw [if_neg ho2,if_neg ho] at e; simpa [Zp,e] using this.2
            obtain ⟨g1,g2⟩:=hc.write hm (w':=c.w.setRow (c.ρ g).blk new.toArray) rfl rfl rfl (by simp) (setRow_heap _ _ _ _ _ _ h1) (fun i _ hi=>setRow_other _ _ _ _ hi) hb
            refine ⟨_,?_,g1,g2,rfl,rfl,rfl,rfl⟩
            simp only [Instr.storeAt,Instr.sureAddr,storeVar,Sem.run_bind,Sem.run_pure,Result.andThen_ok,bH hn,k1,hq1,ne_eq,not_true,if_false,h2,hrun]
          · cases h
        · cases h
      · cases h
  | _=>simp [bJ] at h

variable {P:Program} {c:Ctx}

theorem iF {cells:List AV} {v:Value} (h:VR c (.agg cells) v):∃ vs:Array Value,v=.agg vs∧cells.length=vs.size∧(∀ (i:Nat) (x:AV),cells[i]?=some x→x.one=true)∧(∀ (i:Nat) (x:AV),cells[i]?=some x→VR c x (vs.getD i bX)):=by
  cases h with
  | agg cells vs h1 h2 h3=>exact ⟨vs,rfl,h1,h2,h3⟩

theorem Ab {t e:TypeId} {fs:Array Field} {fi n:Nat} {f:Field} {d:TypeDesc} {x r:AV} {v:Value} (ht:P.underlying t=some (.struct fs)) (hf:fs[fi]?=some f) (hd:P.underlying f.type=some d)
    (hn:(P.info? f.type).map (·.size)=some n) (hx:VR c x v) (h:doFld f.offset n (mU d) x=some r) (w:World):∃ z,(Instr.field t v fi).run P w=.ok z w∧VR c r z:=by
  cases x with
  | agg cells =>
    obtain ⟨vs,rfl,h1,h2,h3⟩:=iF hx
    simp only [doFld,part] at h
    split at h
    · rename_i hl
      cases hag:mU d with
      | true =>
        rw [hag,if_pos rfl] at h
        obtain rfl:=Zm h
        refine ⟨.agg (vs.extract f.offset (f.offset+n)),?_,.agg _ _ (by simp; omega) (fun i x hi=>?_) (fun i x hi=>?_)⟩
        · simp only [Instr.field,Sem.run_bind,run_underlying ht,Result.andThen_ok,hf,asAgg,Sem.run_pure,Go.part,fW hd,hag,if_true,bH hn]
        · rw [AW] at hi; split at hi
          · rw [AU] at hi; exact h2 _ x hi
          · cases hi
        · rw [AW] at hi; split at hi
          · rename_i hin
            rw [AU] at hi
            have:=h3 _ x hi
            have hlt:f.offset+i<vs.size:=by rw [← h1]; exact (Zw.1 hi).1
            rw [Zp,Array.getElem?_extract]
            rw [if_pos (by omega)]
            simpa [Zp] using this
          · cases hi
      | false =>
        rw [hag] at h
        simp only [AK,if_false] at h
        split at h
        · have hlt:f.offset<vs.size:=by rw [← h1]; exact (Zw.1 h).1
          refine ⟨vs[f.offset],?_,?_⟩
          · simp only [Instr.field,Sem.run_bind,run_underlying ht,Result.andThen_ok,hf,asAgg,Sem.run_pure,Go.part,fW hd,hag,AK,if_false]
            rw [CM hlt]; rfl
          · have:=h3 _ r h
            simpa [Zp,hlt] using this
        · cases h
    · cases h
  | _=>simp [doFld] at h

theorem tX {t e:TypeId} {sz:Nat} {x y:AV} {v u:Value} {r:OR} (hc:Gd c) (ht:P.underlying t=some (.slice e)) (hn:(P.info? e).map (·.size)=some sz) (hx:VR c x v) (hy:VR c y u)
    (h:cE c.m sz x y=some r) (w:World):r.ups=[]∧∃ z,(Instr.indexAt t v u).run P w=.ok z w∧VR c r.v z:=by
  have run:∀ (a:Addr) (n cap:Nat) (k:IntKind) (i:Int),0≤i→i<n→(Instr.indexAt t (.slice (some a) n cap) (.int k i)).run P w=.ok (.pointer (some (a.add (i.toNat * sz)))) w:=by
    intro a n cap k i h0 h1
    simp only [Instr.indexAt,Sem.run_bind,asIntOf,Sem.run_pure,Result.andThen_ok,run_underlying ht,h0,h1,and_self,if_true,bH hn]
  cases x with
  | slm g len =>
    cases hx with
    | slm g len a n cap hU hA =>
      cases hy with
      | int k i hi =>
        simp only [cE] at h
        split at h
        · rename_i t' sz' rs hm
          split at h
          · rename_i hq
            obtain ⟨rfl,h0,h1⟩:=hq
            obtain rfl:=Zm h
            obtain ⟨rfl,rfl,rfl⟩:=hA (by simp [Ctx.L,hm])
            obtain ⟨cs,_,h2,_⟩:=hc.rows g t' _ rs hm
            refine ⟨rfl,_,run _ _ _ _ _ h0 h1,.ptr _ _ _ _ hU (fun _=>?_)⟩
            rw [cS,h2,BF,CT]
          · cases h
        · cases h
      | _=>simp [cE] at h
  | slv sz' rows =>
    cases y with
    | int k i =>
      simp only [cE] at h
      split at h
      · rename_i hq
        obtain ⟨rfl,h0,h1⟩:=hq
        obtain rfl:=Zm h
        cases hy with
        | int k i hi =>
          have hl:i.toNat<rows.length:=by omega
          cases hx with
          | slvs sz rows a cap us hne hl2 hm hB hb hs hcell h1' hv =>
            refine ⟨rfl,_,run _ _ _ _ _ h0 (by omega),?_⟩
            have hr:rows[i.toNat]?=some rows[i.toNat]:=Zz hl
            simp only [Zr,hr,Option.getD_some]
            refine .pv _ _ (fun j=>us i.toNat j) (by rwa [bU]) (by rwa [bU]) (fun j z hj=>?_) (fun j z hj=>h1' _ _ j z hr hj) (fun j z hj=>hv _ _ j z hr hj)
            rw [eI]; exact hcell _ _ j z hr hj
          | slv0=>simp at hl
          | slve=>simp at hl
      · cases h
    | _=>simp [cE] at h
  | _=>simp [cE] at h

theorem tL {t e:TypeId} {len sz:Nat} {x y r:AV} {v u:Value} (ht:P.underlying t=some (.array len e)) (hn:(P.info? e).map (·.size)=some sz) (hx:VR c x v) (hy:VR c y u)
    (hL:∀ g row o,x=.ptr g row o→c.L g) (h:gD len sz x y=some r) (w:World):∃ z,(Instr.indexAt t v u).run P w=.ok z w∧VR c r z:=by
  have run:∀ (a:Addr) (k:IntKind) (i:Int),0≤i→i<len→(Instr.indexAt t (.pointer (some a)) (.int k i)).run P w=.ok (.pointer (some (a.add (i.toNat * sz)))) w:=by
    intro a k i h0 h1
    simp only [Instr.indexAt,Sem.run_bind,asIntOf,Sem.run_pure,Result.andThen_ok,run_underlying ht,Instr.sureAddr,h0,h1,and_self,if_true,bH hn]
  cases y with
  | int k i =>
    cases hy with
    | int k i hi =>
      cases x with
      | ptr g row o =>
        simp only [gD] at h
        split at h
        · rename_i hq
          obtain rfl:=Zm h
          cases hx with
          | ptr g row o a hU hA =>
            obtain rfl:=hA (hL g row o rfl)
            exact ⟨_,run _ _ _ hq.1 hq.2,.ptr _ _ _ _ hU (fun _=>by rw [cS,FF])⟩
        · cases h
      | pv cells =>
        simp only [gD] at h
        split at h
        · rename_i hq
          obtain rfl:=Zm h
          cases hx with
          | pv cells a us hB hb hcl h1 hv =>
            refine ⟨_,run _ _ _ hq.1 hq.2,.pv _ _ (fun j=>us (i.toNat * sz+j)) (by rwa [bU]) (by rwa [bU]) (fun j y hj=>?_) (fun j y hj=>?_) (fun j y hj=>?_)⟩
            · rw [eI]; exact hcl _ y (by rwa [AU] at hj)
            · exact h1 _ y (by rwa [AU] at hj)
            · exact hv _ y (by rwa [AU] at hj)
        · cases h
      | _=>simp [gD] at h
  | _=>cases x <;> simp [gD] at h

theorem wV {t:TypeId} {x:AV} {v:Value} (ht:P.concrete t=true) (hx:VR c x v) (w:World):∃ z,(Instr.makeInterface t v).run P w=.ok z w∧VR c (.iface t x) z :=
  ⟨_,run_makeInterface w t v ht,.iface _ _ _ hx⟩

theorem qN {t xt:TypeId} {ok:Bool} {x r:AV} {v:Value} (ht:P.concrete t=true) (hx:VR c x v) (h:fR t ok x=some r) (w:World) :
    ∃ z,(Instr.typeAssert v xt t ok).run P w=.ok z w∧VR c r z:=by
  cases hx with
  | iface t' x v hv =>
    simp only [fR] at h
    split at h
    · rename_i he; subst he
      obtain rfl:=Zm h
      unfold Program.concrete at ht
      cases hd:P.underlying t' with
      | none=>simp [hd] at ht
      | some d =>
        have hni:∀ ms,d≠.interface ms:=by intro ms e; subst e; simp [hd] at ht
        cases ok with
        | true =>
          refine ⟨.tuple #[v,.bool true],?_,.tup _ _ rfl (fun i y hi=>?_)⟩
          · cases d <;> first | exact absurd rfl (hni _) | simp [Instr.typeAssert,run_underlying hd]
          · match i with
            | 0=>simp at hi; subst hi; exact hv
            | 1=>simp at hi; subst hi; exact .bool _
            | i+2=>simp at hi
        | false =>
          refine ⟨v,?_,hv⟩
          cases d <;> first | exact absurd rfl (hni _) | simp [Instr.typeAssert,run_underlying hd]
    · cases h
  | _=>simp [fR] at h

theorem Ad {t e ty:TypeId} {x:AV} {v:Value} {r:OR} (ht:P.underlying t=some (.slice e)) (hc:Gd c) (hx:VR c x v) (h:dP c.m x=some r) (w:World) :
    r.ups=[]∧∃ z,(Builtin.len_ #[t] ty #[v]).run P w=.ok z w∧VR c r.v z:=by
  have run:∀ (a:Option Addr) (n k:Nat),(Builtin.len_ #[t] ty #[.slice a n k]).run P w=.ok (.int .i64 n) w:=by
    intro a n k; simp [Builtin.len_,run_underlying ht,goInt]
  cases hx with
  | slnil=>simp only [dP,Zn] at h; subst h; exact ⟨rfl,_,run _ _ _,.int _ 0 (by decide)⟩
  | sle sz a cap hcap=>simp only [dP,Zn] at h; subst h; exact ⟨rfl,_,run _ _ _,.int _ 0 (by decide)⟩
  | slv0 sz=>simp only [dP,Zn] at h; subst h; exact ⟨rfl,_,run _ _ _,.int _ 0 (by decide)⟩
  | slve sz a cap hcap=>simp only [dP,Zn] at h; subst h; exact ⟨rfl,_,run _ _ _,.int _ 0 (by decide)⟩
  | slvs sz rows a cap us h0 hl hm=>simp only [dP,Zn] at h; subst h; exact ⟨rfl,_,run _ _ _,.int _ _ (oH (EE hl hm))⟩
  | slm g len a n cap hU hA =>
    simp only [dP] at h
    split at h
    · rename_i t' sz' rs hm
      split at h
      · rename_i hle
        obtain rfl:=Zm h
        obtain ⟨rfl,rfl,rfl⟩:=hA (by simp [Ctx.L,hm])
        obtain ⟨cs,_,_,_,h4,h5,_⟩:=hc.rows g t' _ rs hm
        exact ⟨rfl,_,run _ _ _,.int _ _ (oH (by omega))⟩
      · cases h
    · cases h
  | _=>simp [dP] at h

theorem Cj {a1:Array TypeId} {ty:TypeId} {x y r:AV} {v u:Value} (hx:VR c x v) (hy:VR c y u) (h:pB x y=some r) (w:World):∃ z,(Builtin.min_ a1 ty #[v,u]).run P w=.ok z w∧VR c r z:=by
  cases hx with
  | int k a ha =>
    cases hy with
    | int k' b hb =>
      simp only [pB] at h
      split at h
      · rename_i hk; subst hk
        obtain rfl:=Zm h
        exact ⟨_,by simp [Builtin.min_,Builtin.min2],.int _ _ (by split <;> assumption)⟩
      · cases h
    | _=>simp [pB] at h
  | _=>simp [pB] at h
theorem Ck {a1:Array TypeId} {ty:TypeId} {x y r:AV} {v u:Value} (hx:VR c x v) (hy:VR c y u) (h:pC x y=some r) (w:World):∃ z,(Builtin.max_ a1 ty #[v,u]).run P w=.ok z w∧VR c r z:=by
  cases hx with
  | int k a ha =>
    cases hy with
    | int k' b hb =>
      simp only [pC] at h
      split at h
      · rename_i hk; subst hk
        obtain rfl:=Zm h
        exact ⟨_,by simp [Builtin.max_,Builtin.max2],.int _ _ (by split <;> assumption)⟩
      · cases h
    | _=>simp [pC] at h
  | _=>simp [pC] at h

def CR (c:Ctx) (xs:List AV) (vs:Array Value):Prop:=vs.size=xs.length∧∀ (i:Nat) (x:AV),xs[i]?=some x→x.one=true∧VR c x (vs.getD i bX)

theorem mA (off:Nat):∀ (l:List Value) (k:Nat) (cells:Array Value),((l.zipIdx k).foldl (fun cs x=>cs.setIfInBounds (off+x.2) x.1) cells).size=cells.size ∧
    (off+k+l.length≤cells.size→∀ i,((l.zipIdx k).foldl (fun cs x=>cs.setIfInBounds (off+x.2) x.1) cells)[i]?=if off+k≤i∧i<off+k+l.length then l[i - (off+k)]? else cells[i]?)
  | [],k,cells=>⟨rfl,fun _ i=>by rw [if_neg (by rintro ⟨_,h⟩; simp only [List.length_nil] at h; omega)]; rfl⟩
  | v :: l,k,cells=>by
    obtain ⟨h1,h2⟩:=mA off l (k+1) (cells.setIfInBounds (off+k) v)
    simp only [FU,List.foldl_cons]
    refine ⟨by rw [h1]; simp,fun hl i=>?_⟩
    rw [h2 (by simp at hl ⊢; omega) i]
    simp only [AQ] at hl ⊢
    by_cases e:i=off+k
    · subst e
      rw [if_neg (by omega),if_pos (by omega)]
      rw [Array.getElem?_setIfInBounds_self_of_lt (by omega)]
      simp
    · rw [CA (by omega)]
      by_cases e2:off+(k+1)≤i∧i<off+(k+1)+l.length
      · rw [if_pos e2,if_pos (by omega)]
        have:i - (off+k)=(i - (off+(k+1)))+1:=by omega
        rw [this,List.getElem?_cons_succ]
      · rw [if_neg e2,if_neg (by omega)]

theorem oP {xs:List AV} {vs:Array Value} {y:AV} {u:Value} {off:Nat} (h:CR c xs vs) (hy:VR c y u) (h1:y.cells.all AV.one=true) (hl:off+y.cells.length≤xs.length) :
    CR c (aF xs off y.cells) (u.cells.zipIdx.foldl (fun cs (x:Value×Nat)=>cs.setIfInBounds (off+x.2) x.1) vs):=by
  obtain ⟨k1,k2,k3⟩:=hy.cells_rel h1
  have e:u.cells.zipIdx.foldl (fun cs (x:Value×Nat)=>cs.setIfInBounds (off+x.2) x.1) vs=(u.cells.toList.zipIdx 0).foldl (fun cs (x:Value×Nat)=>cs.setIfInBounds (off+x.2) x.1) vs:=by
    rw [← Array.foldl_toList]; simp
  obtain ⟨f1,f2⟩:=mA off u.cells.toList 0 vs
  rw [e]
  refine ⟨by rw [f1,h.1,iZ _ _ _ hl],fun i x hi=>?_⟩
  have hfit:off+0+u.cells.toList.length≤vs.size:=by simp only [BO,k1,h.1]; omega
  have f3:=f2 hfit i
  rw [sB _ _ _ hl] at hi
  simp only [CT,BO,k1] at f3
  split at hi
  · rename_i hlt
    rw [if_neg (by omega)] at f3
    have:=h.2 i x hi
    refine ⟨this.1,?_⟩
    simpa [Zp,f3] using this.2
  · split at hi
    · rw [if_pos (by omega)] at f3
      have:=k3 _ x hi
      refine ⟨this.1,?_⟩
      simpa [Zp,f3] using this.2
    · rw [if_neg (by omega)] at f3
      have:=h.2 i x hi
      refine ⟨this.1,?_⟩
      simpa [Zp,f3] using this.2

inductive PR (c:Ctx) (place:Nat→Option (Nat×Nat)):List (Nat×Value)→List (Nat×Nat×AV)→Prop
  | nil:PR c place [] []
  | cons {i off n:Nat} {v:Value} {x:AV} {l:List (Nat×Value)} {l':List (Nat×Nat×AV)}:place i=some (off,n)→VR c x v→PR c place l l'→PR c place ((i,v) :: l) ((off,n,x) :: l')

theorem pF {place:Nat→Option (Nat×Nat)} {ps:List (Nat×Value)} {qs:List (Nat×Nat×AV)} (hp:PR c place ps qs):∀ {xs:List AV} {vs:Array Value} {r:List AV},CR c xs vs→fillA xs qs=some r →
    ∃ us,Instr.fill place vs ps=some us∧CR c r us:=by
  induction hp with
  | nil=>intro xs vs r h hr; simp only [fillA,Zn] at hr; subst hr; exact ⟨vs,rfl,h⟩
  | cons hpl hv _ ih =>
    rename_i i off n v x l l'
    intro xs vs r h hr
    simp only [fillA] at hr
    split at hr
    · rename_i hq
      obtain ⟨rfl,q2,q3⟩:=hq
      obtain ⟨us,h1,h2⟩:=ih (oP h hv q3 q2) hr
      refine ⟨us,?_,h2⟩
      obtain ⟨k1,_,_⟩:=hv.cells_rel q3
      simp only [Instr.fill,hpl]
      have hs:=h.1
      split
      · rename_i hbad; exfalso; rw [AZ,decide_eq_true_eq,decide_eq_true_eq] at hbad; omega
      · exact h1
    · cases hr

theorem mL (w:World):∀ (fs:List Field),(∀ f∈fs,((P.info? f.type).map (·.size)).isSome=true) →
    (fs.mapM (fun f=>do pure (f.offset,← sizeOf f.type):Field→Sem (Nat×Nat))).run P w=.ok (fs.map fun f=>(f.offset,P.cellsOf f.type)) w
  | [],_=>rfl
  | f :: fs,h=>by
    obtain ⟨n,hn⟩:=Zx.1 (h f (by simp))
    have ih:=mL w fs (fun g hg=>h g (by simp [hg]))
    have hco:P.cellsOf f.type=n:=by simp [Program.cellsOf,hn]
    simp only [List.mapM_cons,Sem.run_bind,bH hn,Result.andThen_ok,Sem.run_pure,ih,BG,hco]

variable {P:Program} {c:Ctx}

def Ok (P:Program) (c:Ctx) (g0:Nat) (r:OR) (s:Sem Value):Prop :=
  ∃ c' z,s.run P c.w=.ok z c'.w∧Gd c'∧St c c'∧c'.m=ups c.m r.ups∧(∀ n,c'.U n→n=g0∨c.U n)∧VR c' r.v z

theorem Ok.same {g0:Nat} {r:OR} {s:Sem Value} {z:Value} (hc:Gd c) (h:s.run P c.w=.ok z c.w) (hu:r.ups=[]) (hv:VR c r.v z):Ok P c g0 r s :=
  ⟨c,z,h,hc,St.refl c,by rw [hu]; rfl,fun _ h=>.inr h,hv⟩

theorem CR.of_cells {x:AV} {v:Value} (hx:VR c x v) (h1:x.cells.all AV.one=true):CR c x.cells v.cells :=
  ⟨(hx.cells_rel h1).1,fun i y hi=>(hx.cells_rel h1).2.2 i y hi⟩

theorem nJ {g0 t sz cap:Nat} {rs:List (List AV)} {cs:Array Value} (hc:Gd c) (hg:¬ c.U g0) (hcs:cs.size=cap * sz) (hl:rs.length≤cap) (hcap:cap≤maxLen)
    (hr:∀ (i:Nat) (r:List AV),rs[i]?=some r→r.length=sz∧∀ (j:Nat) (x:AV),r[j]?=some x→x.one=true∧VR c x (cs.getD (i * sz+j) bX)) :
    ∃ c',(newRow t cs).run P c.w=.ok ⟨c.w.heap.size,0,none⟩ c'.w∧Gd c'∧St c c'∧c'.m=put c.m g0 (some (.rows t sz rs))∧(∀ n,c'.U n→n=g0∨c.U n)∧c'.U g0∧c'.ρ g0=⟨c.w.heap.size,cap,sz⟩:=by
  obtain ⟨h1,h2⟩:=hc.move (g0:=g0) hg (k:=none) (by simp) (ni:=⟨c.w.heap.size,cap,sz⟩) (b:=.rows t sz rs) (o:=.cells cs t (0,0)) (w':=c.w.alloc (.cells cs t (0,0))) rfl rfl rfl (by simp) (.inl rfl) (by simp)
    (by show (c.w.heap.push _)[c.w.heap.size]?=_; simp) (fun i hi _=>Below.heap_alloc _ _ _ hi) ⟨cs,rfl,rfl,hcs,hl,hcap,hr⟩
  refine ⟨_,?_,h1,h2,by simp [Ctx.move,eB],fun n hn=>hn,.inl rfl,by simp [Ctx.move]⟩
  simp [newRow,Ctx.move]

theorem CR.row {xs:List AV} {vs:Array Value} (h:CR c xs vs):∀ (i:Nat) (r:List AV),[xs][i]?=some r→r.length=xs.length∧∀ (j:Nat) (x:AV),r[j]?=some x→x.one=true∧VR c x (vs.getD (i * xs.length+j) bX):=by
  intro i r hi
  cases i with
  | zero=>simp at hi; subst hi; exact ⟨rfl,fun j x hj=>by simpa using h.2 j x hj⟩
  | succ i=>simp at hi

theorem nK {g0 t:Nat} {cells:List AV} {v:Value} {r:OR} (hc:Gd c) (hg:¬ c.U g0) (hv:CR c cells v.cells) (h:doBox g0 t cells=some r) :
    Ok P c g0 r (do pure (.pointer (some (← newVar t v)))):=by
  unfold doBox at h
  split at h
  · rename_i h1
    obtain rfl:=Zm h
    obtain ⟨c',k1,k2,k3,k4,k5,k6,k7⟩:=nJ (P:=P) (t:=t) (rs:=[cells]) (cap:=1) hc hg (by simpa using hv.1) (by simp) (by simp [maxLen]) hv.row
    refine ⟨c',_,?_,k2,k3,by simpa [ups] using k4,k5,.ptr g0 0 0 (some ⟨c.w.heap.size,0,none⟩) k6 (fun _=>by rw [k7]; simp)⟩
    simp only [newVar,Sem.run_bind,k1,Result.andThen_ok,Sem.run_pure]
  · cases h

theorem Bm {g0 t : Nat} {x : AV} {v : Value} {r:OR} (hc:Gd c) (hg:¬ c.U g0) (hx:VR c x v) (h:doBox g0 t x.cells=some r):Ok P c g0 r (Instr.box t v):=by
  have h1 : x.cells.all AV.one = true := by unfold doBox at h; split at h; · assumption
                                            · cases h
  exact nK (P:=P) hc hg (CR.of_cells hx h1) h

theorem uU {g0 t:Nat} {zero:List AV} {z:Value} {r:OR} (hc:Gd c) (hg:¬ c.U g0) (hz:∃ i,P.info? t=some i∧i.zero=some z) (hv:CR c zero z.cells) (h:doBox g0 t zero=some r):Ok P c g0 r (Instr.alloc t true (.tuple #[])):=by
  obtain ⟨i,hi,hiz⟩:=hz
  obtain ⟨c',u,k1,k2⟩:=nK (P:=P) hc hg hv h
  refine ⟨c',u,?_,k2⟩
  rw [← k1]
  simp [Instr.alloc,zeroValue,typeInfo,hi,hiz]

theorem kE {t:TypeId} {fs:Array Field} {z:Value} {zero:List AV} {ps:List (Nat×Value)} {qs:List (Nat×Nat×AV)} {r:AV} (ht:P.underlying t=some (.struct fs)) (hz:∃ i,P.info? t=some i∧i.zero=some z)
    (hv:CR c zero z.cells) (hall:∀ f∈fs.toList,((P.info? f.type).map (·.size)).isSome=true) (hp:PR c (fun i:Nat=>(fs[i]?).map fun f=>(f.offset,P.cellsOf f.type)) ps qs)
    (h:doBuild zero qs=some r) (w:World):∃ u,(Instr.build t ps.toArray).run P w=.ok u w∧VR c r u:=by
  obtain ⟨i,hi,hiz⟩:=hz
  unfold doBuild at h
  split at h
  · rw [Zl] at h
    obtain ⟨cells,h1,rfl⟩:=h
    obtain ⟨us,h2,h3⟩:=pF hp hv h1
    refine ⟨.agg us,?_,.agg _ _ h3.1.symm (fun i x hi=>(h3.2 i x hi).1) (fun i x hi=>(h3.2 i x hi).2)⟩
    have hpl:(fun i:Nat=>((fs.toList.map fun f=>(f.offset,P.cellsOf f.type)).toArray)[i]?)=(fun i:Nat=>(fs[i]?).map fun f=>(f.offset,P.cellsOf f.type)):=by funext i; simp
    have hm:(fs.mapM (fun f=>do pure (f.offset,← sizeOf f.type):Field→Sem (Nat×Nat))).run P w=.ok (fs.toList.map fun f=>(f.offset,P.cellsOf f.type)).toArray w:=by
      rw [Array.mapM_eq_mapM_toList]
      have:=mL (P:=P) w fs.toList hall
      simp only [map_eq_pure_bind,Sem.run_bind,this,Result.andThen_ok,Sem.run_pure]
    simp only [Instr.build,zeroValue,typeInfo,Sem.run_bind,run_program,Result.andThen_ok,hi,Sem.run_pure,hiz,run_underlying ht,hm,hpl]
    rw [h2]
    rfl
  · cases h

theorem lJ {t e:TypeId} {n sz:Nat} {z:Value} {zero:List AV} {ps:List (Nat×Value)} {qs:List (Nat×Nat×AV)} {r:AV} (ht:P.underlying t=some (.array n e)) (hz:∃ i,P.info? t=some i∧i.zero=some z)
    (hn:(P.info? e).map (·.size)=some sz) (hv:CR c zero z.cells) (hp:PR c (fun i=>some (i * sz,sz)) ps qs) (h:doBuild zero qs=some r) (w:World):∃ u,(Instr.build t ps.toArray).run P w=.ok u w∧VR c r u:=by
  obtain ⟨i,hi,hiz⟩:=hz
  unfold doBuild at h
  split at h
  · rw [Zl] at h
    obtain ⟨cells,h1,rfl⟩:=h
    obtain ⟨us,h2,h3⟩:=pF hp hv h1
    refine ⟨.agg us,?_,.agg _ _ h3.1.symm (fun i x hi=>(h3.2 i x hi).1) (fun i x hi=>(h3.2 i x hi).2)⟩
    simp only [Instr.build,zeroValue,typeInfo,Sem.run_bind,run_program,Result.andThen_ok,hi,Sem.run_pure,hiz,run_underlying ht,bH hn]
    rw [h2]
    rfl
  · cases h

theorem pG {sz:Nat}:∀ (xs:List AV) (vs:List Value) (k:Nat) (cells:Array Value),xs.length=vs.length→(∀ (i:Nat) (x:AV),xs[i]?=some x→VR c x (vs.getD i bX)∧x.cells.length=sz∧x.cells.all AV.one=true) →
    cells.size=(k+xs.length) * sz→∃ us,Instr.fill (fun i=>some (i * sz,sz)) cells ((vs.zipIdx k).map fun x:Value×Nat=>(x.2,x.1))=some us∧us.size=cells.size ∧
      (∀ i,i<k * sz→us[i]?=cells[i]?)∧∀ (i:Nat) (x:AV),xs[i]?=some x→∀ (j:Nat) (y:AV),x.cells[j]?=some y→y.one=true∧VR c y (us.getD ((k+i) * sz+j) bX)
  | [],[],k,cells,_,_,_=>⟨cells,rfl,rfl,fun _ _=>rfl,fun i x hi=>by simp at hi⟩
  | [],_ :: _,_,_,h,_,_=>by simp at h
  | _ :: _,[],_,_,h,_,_=>by simp at h
  | x :: xs,v :: vs,k,cells,hl,hr,hs=>by
    obtain ⟨hv,hsz,h1⟩:=hr 0 x rfl
    have hv':VR c x v:=by simpa using hv
    obtain ⟨k1,k2,k3⟩:=hv'.cells_rel h1
    have hsz':v.cells.size=sz:=k1.trans hsz
    have hfit:k * sz+sz≤cells.size:=by
      rw [hs,AQ]
      calc k * sz+sz=(k+1) * sz:=by rw [BJ,CC]
        _≤(k+(xs.length+1)) * sz:=AI _ (by omega)
    obtain ⟨f1,f2⟩:=mA (k * sz) v.cells.toList 0 cells
    have e:v.cells.zipIdx.foldl (fun cs (x:Value×Nat)=>cs.setIfInBounds (k * sz+x.2) x.1) cells=(v.cells.toList.zipIdx 0).foldl (fun cs (x:Value×Nat)=>cs.setIfInBounds (k * sz+x.2) x.1) cells:=by
      rw [← Array.foldl_toList]; simp
    rw [← e] at f1 f2
    generalize hnew:v.cells.zipIdx.foldl (fun cs (x:Value×Nat)=>cs.setIfInBounds (k * sz+x.2) x.1) cells=new at f1 f2
    have f3:=f2 (by simp only [BO,hsz']; omega)
    obtain ⟨us,g1,g2,g3,g4⟩:=pG xs vs (k+1) new (by simpa using hl) (fun i y hi=>by have:=hr (i+1) y (by simpa using hi); simpa using this) (by rw [f1,hs,AQ]; congr 1; omega)
    refine ⟨us,?_,by rw [g2,f1],fun i hi=>?_,fun i y hi j u hj=>?_⟩
    · simp only [FU,BG,Instr.fill]
      split
      · rename_i hbad; exfalso; rw [AZ,decide_eq_true_eq,decide_eq_true_eq] at hbad; omega
      · rw [hnew]; exact g1
    · rw [g3 i (by rw [BJ,CC]; omega),f3 i,if_neg (by omega)]
    · cases i with
      | zero =>
        simp only [DD,Zn] at hi; subst hi
        have hjs:j<sz:=by rw [← hsz]; exact (Zw.1 hj).1
        have e1:us[(k+0) * sz+j]?=v.cells[j]?:=by
          rw [CT,g3 _ (by rw [BJ,CC]; omega),f3,if_pos (by simp only [BO,hsz']; omega)]
          simp
        have:=k3 j u hj
        refine ⟨this.1,?_⟩
        rw [Zp,e1]
        simpa [Zp] using this.2
      | succ i =>
        have:=g4 i y (by simpa using hi) j u hj
        rwa [show k+1+i=k+(i+1) from by omega] at this

theorem tO {g0 t e sz n:Nat} {xs:List AV} {vs:List Value} {z:Value} {r:OR} (hc:Gd c) (hg:¬ c.U g0) (ht:P.underlying t=some (.slice e)) (hn:(P.info? e).map (·.size)=some sz)
    (hz:∃ i,P.info? e=some i∧i.zero=some z) (hzs:0<z.cells.size) (hsmall:n * sz≤16777216) (hl:xs.length=vs.length) (hv:∀ (i:Nat) (x:AV),xs[i]?=some x→VR c x (vs.getD i bX)) (h:aX g0 e sz n xs=some r) :
    Ok P c g0 r (Instr.buildSlice t n ((vs.zipIdx 0).map fun x:Value×Nat=>(x.2,x.1)).toArray):=by
  unfold aX at h
  split at h
  · rename_i hq
    obtain ⟨hq1,hq3,hq2⟩:=hq
    obtain rfl:=Zm h
    obtain ⟨i,hi,hiz⟩:=hz
    rw [List.all_eq_true] at hq2
    have hparts:∀ (i:Nat) (x:AV),xs[i]?=some x→VR c x (vs.getD i bX)∧x.cells.length=sz∧x.cells.all AV.one=true:=by
      intro i x hx
      have:=hq2 x (List.mem_of_getElem? hx)
      rw [Bool.and_eq_true,decide_eq_true_eq] at this
      exact ⟨hv i x hx,this.1,this.2⟩
    -- whatever the cells were
    have key:∀ zc:Array Value,zc.size=n * sz→∃ us,Instr.fill (fun i=>some (i * sz,sz)) zc ((vs.zipIdx 0).map fun x:Value×Nat=>(x.2,x.1))=some us∧us.size=n * sz ∧
        ∀ (i:Nat) (q:List AV),(xs.map AV.cells)[i]?=some q→q.length=sz∧∀ (j:Nat) (y:AV),q[j]?=some y→y.one=true∧VR c y (us.getD (i * sz+j) bX):=by
      intro zc hzc
      obtain ⟨us,g1,g2,_,g4⟩:=pG (c:=c) (sz:=sz) xs vs 0 zc hl hparts (by rw [hzc,BF,hq1])
      refine ⟨us,g1,by rw [g2,hzc],fun i q hiq=>?_⟩
      rw [CX,Zl] at hiq
      obtain ⟨x,hx,rfl⟩:=hiq
      refine ⟨(hparts i x hx).2.1,fun j y hj=>?_⟩
      have:=g4 i x hx j y hj
      rwa [BF] at this
    have hcap:n≤maxLen:=by simp only [maxLen]; omega
    obtain ⟨us,g1,g2,g3⟩:=key ((Array.range (n * sz)).map (fun q=>(if n * sz=0 then #[] else z.cells)[q % (if n * sz=0 then #[] else z.cells).size]!)) (by simp)
    obtain ⟨c',k1,k2,k3,k4,k5,k6,k7⟩:=nJ (P:=P) (t:=e) (rs:=xs.map AV.cells) (cap:=n) hc hg g2 (by simp [hq1]) hcap g3
    refine ⟨c',.slice (some ⟨c.w.heap.size,0,none⟩) n n,?_,k2,k3,by simpa [ups] using k4,k5,.slm g0 n _ _ _ k6 (fun _=>by rw [k7]; simp)⟩
    have hb:¬ (n * sz > 2 ^ 24):=by omega
    by_cases h0:n * sz=0
    · simp only [h0,if_true] at g1
      simp only [Instr.buildSlice,Sem.run_bind,run_underlying ht,Result.andThen_ok,bH hn,hb,if_false,h0,if_true,Sem.run_pure,g1]
      simp only [Nat.not_lt_zero,gt_iff_lt,if_false,Sem.run_bind,Sem.run_pure,Result.andThen_ok]
      rw [g1]
      simp only [Sem.run_bind,Sem.run_pure,Result.andThen_ok,k1]
    · simp only [h0,if_false] at g1
      simp only [Instr.buildSlice,Sem.run_bind,run_underlying ht,Result.andThen_ok,bH hn,hb,if_false,h0,Sem.run_pure,zeroValue,typeInfo,run_program,hi,hiz,g1,k1]
  · cases h

variable {P:Program} {c:Ctx}

theorem rP {g0 t e sz bytes:Nat} {zero:List AV} {z:Value} {x y:AV} {v u:Value} {r:OR} (hc:Gd c) (hg:¬ c.U g0) (ht:P.underlying t=some (.slice e))
    (hi:∃ i,P.info? e=some i∧i.zero=some z∧i.size=sz∧i.bytes=bytes) (hz:CR c zero z.cells) (hsz:0<sz) (hx:VR c x v) (hy:VR c y u) (h:iJ g0 e sz zero bytes x y=some r):Ok P c g0 r (Instr.makeSlice t v u):=by
  unfold iJ at h
  split at h
  · rename_i l cc
    split at h
    · rename_i hq
      obtain ⟨rfl,q2,q3,q4,q5,q6⟩:=hq
      obtain rfl:=Zm h
      obtain ⟨i,hi1,hi2,hi3,hi4⟩:=hi
      cases hx with
      | int k n hn =>
        cases hy with
        | int k' n' hn' =>
          have hby:(i.bytes:Int) * l≤281474976710656:=by
            rw [hi4,Int.mul_comm]; omega
          have hrun:=run_make (P:=P) c.w t e i z ht hi1 hi2 .i64 .i64 l l q2 (Int.le_refl _) hby q4
          have hcells:∀ (k:Nat) (r:List AV),(BZ l.toNat zero)[k]?=some r→r.length=sz∧∀ (j:Nat) (x:AV),r[j]?=some x→x.one=true∧VR c x ((madeCells z.cells (l.toNat * i.size)).getD (k * sz+j) bX):=by
            intro k r hk
            rw [List.getElem?_replicate] at hk
            split at hk
            · rename_i hkl
              obtain rfl:=Zm hk
              refine ⟨q6,fun j x hj=>?_⟩
              have hjs:j<sz:=by rw [← q6]; exact (Zw.1 hj).1
              have:=hz.2 j x hj
              refine ⟨this.1,?_⟩
              have hlt:k * sz+j<l.toNat * i.size:=by
                rw [hi3]
                calc k * sz+j<k * sz+sz:=by omega
                  _=(k+1) * sz:=by rw [BJ,CC]
                  _≤l.toNat * sz:=AI _ hkl
              have hzsz:z.cells.size=sz:=by rw [hz.1,q6]
              have hmod:(k * sz+j) % z.cells.size=j:=by rw [hzsz,Nat.mul_comm,Nat.mul_add_mod,Nat.mod_eq_of_lt hjs]
              have:(madeCells z.cells (l.toNat * i.size))[k * sz+j]?=z.cells[j]?:=by
                have hj2:j<z.cells.size:=by omega
                simp only [madeCells,Array.getElem?_map,Array.getElem?_range,hlt,if_true,Option.map_some,hmod]
                rw [getElem!_pos z.cells j hj2,CM hj2]
              rw [Zp,this]
              simpa [Zp] using (hz.2 j x hj).2
            · cases hk
          have hcap:l.toNat≤maxLen:=by simp only [maxLen]; omega
          obtain ⟨h1,h2⟩:=hc.move (g0:=g0) hg (k:=none) (by simp) (ni:=⟨c.w.heap.size,l.toNat,sz⟩) (b:=.rows e sz (BZ l.toNat zero)) (o:=.cells (madeCells z.cells (l.toNat * i.size)) e (0,0))
            (w':=c.w.alloc (.cells (madeCells z.cells (l.toNat * i.size)) e)) rfl rfl rfl (by simp) (.inl rfl) (by simp) (by show (c.w.heap.push _)[c.w.heap.size]?=_; simp) (fun i hi _=>Below.heap_alloc _ _ _ hi)
            ⟨_,rfl,rfl,by rw [size_madeCells,hi3],by simp,hcap,hcells⟩
          refine ⟨_,_,hrun,h1,h2,by simp [Ctx.move,eB,ups],fun n hn=>hn,.slm g0 _ _ _ _ (.inl rfl) (fun _=>by simp [Ctx.move])⟩
    · cases h
  · cases h

theorem mI {sz : Nat} {x : AV} {v:Value} {xs:List (List AV)} {rd:List Nat} (hc:Gd c) (hx:VR c x v) (h:rowsOf c.m sz x=some (xs,rd)) :
    (∀ (i:Nat) (r:List AV),xs[i]?=some r→r.length=sz)∧∃ (A:Option Addr) (cap:Nat),v=.slice A xs.length cap∧(xs=[]∨∃ a,A=some a ∧
      ∀ (i:Nat) (r:List AV),xs[i]?=some r→∀ (j:Nat) (y:AV),r[j]?=some y→∃ u,c.w.cell? (a.add (i * sz+j))=some u∧y.one=true∧VR c y u):=by
  cases hx with
  | slnil=>simp only [rowsOf,Zn,Prod.mk.injEq] at h; obtain ⟨rfl,rfl⟩:=h; exact ⟨by simp,_,_,rfl,.inl rfl⟩
  | sle sz' a cap hcap=>simp only [rowsOf,Zn,Prod.mk.injEq] at h; obtain ⟨rfl,rfl⟩:=h; exact ⟨by simp,_,_,rfl,.inl rfl⟩
  | slv0 sz' => simp only [rowsOf] at h; split at h
                · simp only [Zn,Prod.mk.injEq] at h; obtain ⟨rfl,rfl⟩:=h; exact ⟨by simp,_,_,rfl,.inl rfl⟩
                · cases h
  | slve sz' a cap hcap => simp only [rowsOf] at h; split at h
                           · simp only [Zn,Prod.mk.injEq] at h; obtain ⟨rfl,rfl⟩:=h; exact ⟨by simp,_,_,rfl,.inl rfl⟩
                           · cases h
  | slvs sz' rows a cap us h0 hl hm hB hb hsz hcell h1 hv =>
    simp only [rowsOf] at h
    split at h
    · rename_i hs; subst hs
      simp only [Zn,Prod.mk.injEq] at h
      obtain ⟨rfl,rfl⟩:=h
      exact ⟨hsz,_,_,rfl,.inr ⟨a,rfl,fun i r hi j y hj=>⟨us i j,hcell i r j y hi hj,h1 i r j y hi hj,hv i r j y hi hj⟩⟩⟩
    · cases h
  | slm g len a n cap hU hA =>
    simp only [rowsOf] at h
    split at h
    · rename_i t' sz' rs hm
      split at h
      · rename_i hq
        obtain ⟨rfl,q2⟩:=hq
        simp only [Zn,Prod.mk.injEq] at h
        obtain ⟨rfl,rfl⟩:=h
        obtain ⟨rfl,rfl,rfl⟩:=hA (by simp [Ctx.L,hm])
        obtain ⟨cs,k1,k2,k3,k4,k5,k7⟩:=hc.rows g t' _ rs hm
        have hin:∀ (i:Nat) (r:List AV),(rs.take n)[i]?=some r→rs[i]?=some r:=by
          intro i r hi
          rw [AW] at hi
          split at hi
          · exact hi
          · cases hi
        refine ⟨fun i r hi=>(k7 i r (hin i r hi)).1,_,_,by rw [DA,DY q2],.inr ⟨_,rfl,fun i r hi j y hj=>?_⟩⟩
        obtain ⟨u,u1,u2⟩:=hc.cellsAt hm (hin i r hi) j y hj
        rw [k2] at u1
        exact ⟨u,by rw [cS] at u1 ⊢; rwa [BF],u2⟩
      · cases h
    · cases h
  | _=>simp [rowsOf] at h

theorem kM {sz:Nat} {a:Addr} {xs:List (List AV)} (hl:∀ (i:Nat) (r:List AV),xs[i]?=some r→r.length=sz)
    (h:∀ (i:Nat) (r:List AV),xs[i]?=some r→∀ (j:Nat) (y:AV),r[j]?=some y→∃ u,c.w.cell? (a.add (i * sz+j))=some u∧y.one=true∧VR c y u) :
    ∃ news:List Value,news.length=xs.length * sz∧(∀ j u,news[j]?=some u→c.w.cell? (a.add j)=some u)∧(∀ u∈news,u.oneCell'=true) ∧
      ∀ (i:Nat) (r:List AV),xs[i]?=some r→∀ (j:Nat) (y:AV),r[j]?=some y→y.one=true∧VR c y (news.getD (i * sz+j) bX):=by
  induction xs generalizing a with
  | nil=>exact ⟨[],by simp,by simp,by simp,by simp⟩
  | cons r0 rest ih =>
    have hr0:r0.length=sz:=hl 0 r0 rfl
    obtain ⟨us,k1,k2,k3⟩:=CellsAt.vals (c:=c) (a:=a) (cells:=r0) (fun i x hi=>by have:=h 0 r0 rfl i x hi; simpa using this)
    obtain ⟨ns,n1,n2,n3,n4⟩:=ih (a:=a.add sz) (fun i r hi=>hl (i+1) r (by simpa using hi)) (fun i r hi j y hj=>by
      obtain ⟨u,u1,u2⟩:=h (i+1) r (by simpa using hi) j y hj
      refine ⟨u,?_,u2⟩
      rw [eI,← u1]; congr 2; rw [BJ]; omega)
    have hul:us.length=sz:=k1.trans hr0
    refine ⟨us ++ ns,by rw [CH,hul,n1,AQ,BJ]; omega,fun j u hj=>?_,fun u hu=>?_,fun i r hi j y hj=>?_⟩
    · by_cases hjs:j<sz
      · rw [AF (by omega)] at hj; exact k2 j u hj
      · rw [AJ (by omega),hul] at hj
        have:=n2 _ u hj
        rwa [eI,show sz+(j - sz)=j from by omega] at this
    · rcases BV.1 hu with hu | hu
      · obtain ⟨j,hj,rfl⟩:=EB hu
        have hjr:j<r0.length:=by omega
        have:=k3 j r0[j] (Zz hjr)
        have h2:=this.2.oneCell this.1
        simpa [Zr,hj] using h2
      · exact n3 u hu
    · cases i with
      | zero =>
        simp only [DD,Zn] at hi; subst hi
        have hjs:j<us.length:=by rw [k1]; exact (Zw.1 hj).1
        have:=k3 j y hj
        refine ⟨this.1,?_⟩
        rw [Zr,Nat.zero_mul,BF,AF hjs,← Zr]
        exact this.2
      | succ i =>
        have:=n4 i r (by simpa using hi) j y hj
        refine ⟨this.1,?_⟩
        have e:(i+1) * sz+j - sz=i * sz+j:=by rw [BJ]; omega
        rw [Zr,AJ (by rw [BJ]; omega),hul,e,← Zr]
        exact this.2

theorem jI (t ty e:TypeId) (i:TypeInfo) (ht:P.underlying t=some (.slice e)) (hi:P.info? e=some i) (a:Option Addr) (n k:Nat) (A:Option Addr) (k':Nat) (hk:n≤k) (w:World) :
    (Builtin.append_ #[t,t] ty #[.slice a n k,.slice A 0 k']).run P w=.ok (.slice a n k) w:=by
  have hlc:(Builtin.firstCells i.size 0 (.slice A 0 k')).run P w=.ok #[] w:=by
    cases A <;> simp [Builtin.firstCells,loadCells,loadCellsFrom]
  cases a with
  | none=>simp [Builtin.append_,run_underlying ht,sizeOf,typeInfo,hi,Builtin.lenOf,hlc,hk]
  | some a=>simp [Builtin.append_,run_underlying ht,sizeOf,typeInfo,hi,Builtin.lenOf,hlc,hk,storeCells]

theorem Gd.ownsRow (hc:Gd c) {g:Nat} {t sz:Nat} {rs:List (List AV)} (hm:c.m g=some (.rows t sz rs)) :
    ∃ xs:List Value,c.w.ownsRow 0 t sz (.slice (some ⟨(c.ρ g).blk,0,none⟩) rs.length (c.ρ g).cap) rs.length xs∧rs.length≤(c.ρ g).cap∧(c.ρ g).sz=sz∧(c.ρ g).cap≤maxLen ∧
      ∀ (i:Nat) (r:List AV),rs[i]?=some r→r.length=sz∧∀ (j:Nat) (y:AV),r[j]?=some y→y.one=true∧VR c y (xs.getD (i * sz+j) bX):=by
  obtain ⟨cs,k1,k2,k3,k4,k5,k7⟩:=hc.rows g t sz rs hm
  have hle:rs.length * sz≤cs.size:=by rw [k3]; exact AI _ k4
  refine ⟨cs.toList.take (rs.length * sz),⟨by simp; omega,.inr ⟨_,_,cs,rfl,BS _,k1,k4,k5,k3,rfl⟩⟩,k4,k2,k5,fun i r hi=>⟨(k7 i r hi).1,fun j y hj=>?_⟩⟩
  obtain ⟨hl,hv⟩:=k7 i r hi
  have:=hv j y hj
  refine ⟨this.1,?_⟩
  have hil:i<rs.length:=(Zw.1 hi).1
  have hjl:j<sz:=by rw [← hl]; exact (Zw.1 hj).1
  have hlt:i * sz+j<rs.length * sz:=by
    calc i * sz+j<i * sz+sz:=by omega
      _=(i+1) * sz:=by rw [BJ,CC]
      _≤rs.length * sz:=AI _ hil
  rw [Zr,AW,if_pos hlt]
  simpa [Zp] using this.2

theorem Bk {g0 t e ty sz bytes:Nat} {z:Value} {x y:AV} {v u:Value} {r:OR} (hc:Gd c) (hg:¬ c.U g0) (ht:P.underlying t=some (.slice e))
    (hi:∃ i,P.info? e=some i∧i.zero=some z∧i.size=sz∧i.bytes=bytes) (hzs:z.cells.size=sz) (hsz:0<sz) (hx:VR c x v) (hy:VR c y u) (h:doApp c.m g0 e sz bytes x y=some r) :
    Ok P c g0 r (Builtin.append_ #[t,t] ty #[v,u]):=by
  obtain ⟨i,hi1,hi2,hi3,hi4⟩:=hi
  unfold doApp at h
  split at h
  · cases h
  · rename_i xs rd hrows
    obtain ⟨hl,A,cap,rfl,hA⟩:=mI hc hy hrows
    -- what a row that the law leaves is to us
    have fin : ∀ (k:Option Nat) (v0:Value) (v':Value) (w':World) (rs:List (List AV)) (ys:List Value),(∀ g,k=some g→c.L g)→(∀ b,v0.ownBlock=some b→∃ g,k=some g∧b=(c.ρ g).blk)→(∀ g,k=some g→v0.ownBlock=some (c.ρ g).blk) →
        w'.ownsRow 0 e sz v' rs.length ys→c.w.grownBy w' v0.ownBlock→(v'.ownBlock=v0.ownBlock∨v'.ownBlock=some c.w.heap.size)→v'≠.slice none 0 0 →
        (∀ (i:Nat) (r:List AV),rs[i]?=some r→r.length=sz∧∀ (j:Nat) (y:AV),r[j]?=some y→y.one=true∧VR c y (ys.getD (i * sz+j) bX)) →
        ∃ c',c'.w=w'∧Gd c'∧St c c'∧c'.m=put (eB c.m k) g0 (some (.rows e sz rs))∧(∀ n,c'.U n→n=g0∨c.U n)∧VR c' (.slm g0 rs.length) v':=by
      intro k v0 v' w' rs ys hk hk1 hk2 hown hgr hblk hne hrs
      obtain ⟨hyl,hform⟩:=hown
      rcases hform with ⟨h0,_⟩ | ⟨g,cap',cur,rfl,_,hh,hn,hcm,hcs,htk⟩
      · exact absurd h0 hne
      · have hblk':g=c.w.heap.size∨∃ q,k=some q∧g=(c.ρ q).blk:=by
          rcases hblk with hb | hb
          · right
            obtain ⟨q,q1,q2⟩:=hk1 g (by rw [← hb]; rfl)
            exact ⟨q,q1,q2⟩
          · left; simpa [Value.ownBlock] using hb
        obtain ⟨h1,h2⟩:=hc.move (g0:=g0) hg (k:=k) hk (ni:=⟨g,cap',sz⟩) (b:=.rows e sz rs) (o:=.cells cur e (0,0)) (w':=w') hgr.os hgr.tape hgr.output hgr.size hblk'
          (by exact (Array.getElem?_eq_some_iff.1 hh).1) hh (fun i hi hn=>hgr.block i hi (fun e'=>by
            obtain ⟨q,q1,q2⟩:=hk1 i e'.symm
            exact hn q q1 q2))
          ⟨cur, rfl,rfl,hcs,hn,hcm,fun i r hi=>⟨(hrs i r hi).1,fun j y hj=>by
            obtain ⟨o1,o2⟩:=(hrs i r hi).2 j y hj
            refine ⟨o1,?_⟩
            have hil:i<rs.length:=(Zw.1 hi).1
            have hjl:j<sz:=by rw [← (hrs i r hi).1]; exact (Zw.1 hj).1
            have hlt:i * sz+j<rs.length * sz:=by
              calc i * sz+j<i * sz+sz:=by omega
                _=(i+1) * sz:=by rw [BJ,CC]
                _≤rs.length * sz:=AI _ hil
            have:ys[i * sz+j]?=cur[i * sz+j]?:=by rw [← htk,AW,if_pos hlt]; simp
            rw [Zr,this] at o2
            simpa [Zp] using o2⟩⟩
        exact ⟨_,rfl,h1,h2,rfl,fun n hn=>hn,.slm g0 _ _ _ _ (.inl rfl) (fun _=>by simp [Ctx.move])⟩
    split at h
    · -- nil,and something behind
      split at h
      · rename_i hq
        obtain ⟨q1,q2,q3⟩:=hq
        obtain rfl:=Zm h
        cases hx
        rcases hA with rfl | ⟨a,rfl,hcell⟩
        · exact absurd rfl q3
        · obtain ⟨news,n1,n2,n3,n4⟩:=kM hl hcell
          obtain ⟨v',w',r1,r2,r3,r4,r5⟩:=run_append_own_at (P:=P) c.w 0 t ty e i z sz bytes ht hi1 hi2 hi3 hi4 hzs hsz (.slice none 0 0) 0 [] ⟨by simp,.inl ⟨rfl,rfl⟩⟩ a xs.length cap news n1 n2 n3 (by simp only [maxLen]; omega) (by simpa using q1) (BS _)
          rw [BF,BE] at r2
          have hne:v'≠.slice none 0 0:=fun e'=>q3 (CQ (r4.1 e').2)
          obtain ⟨c',k1,k2,k3,k4,k5,k6⟩:=fin none (.slice none 0 0) v' w' xs news (by simp) (by simp [Value.ownBlock]) (by simp) r2 r3 r5 hne (fun i r hi=>⟨hl i r hi,n4 i r hi⟩)
          exact ⟨c',v',by rw [k1]; exact r1,k2,k3,by simpa [ups,eB] using k4,k5,k6⟩
      · cases h
    · rename_i g len
      split at h
      · rename_i t' sz' rs hm
        split at h
        · rename_i hq
          obtain ⟨rfl,rfl,rfl,q1,q2⟩:=hq
          obtain rfl:=Zm h
          cases hx with
          | slm g len a n cap0 hU hAA =>
            obtain ⟨rfl,rfl,rfl⟩:=hAA (by simp [Ctx.L,hm])
            obtain ⟨olds,o1,o2,o3,o4,o5⟩:=hc.ownsRow hm
            have rN:=fin (some g) (.slice (some ⟨(c.ρ g).blk,0,none⟩) rs.length (c.ρ g).cap)
            rcases hA with rfl | ⟨a,rfl,hcell⟩
            · -- nothing is appended
              have hrun:=jI (P:=P) t ty t' i ht hi1 (some ⟨(c.ρ g).blk,0,none⟩) rs.length (c.ρ g).cap A cap o2 c.w
              obtain ⟨c',k1,k2,k3,k4,k5,k6⟩:=rN _ c.w rs olds (by rintro q ⟨⟩; simp [Ctx.L,hm]) (fun b hb=>⟨g,rfl,by simpa [Value.ownBlock] using hb.symm⟩) (by rintro q ⟨⟩; rfl) o1 (World.grownBy.refl _ _) (.inl rfl) (by simp) o5
              exact ⟨c',_,by rw [k1]; exact hrun,k2,k3,by simpa [ups,eB] using k4,k5,by simpa using k6⟩
            · obtain ⟨news,n1,n2,n3,n4⟩:=kM hl hcell
              obtain ⟨v',w',r1,r2,r3,r4,r5⟩:=run_append_own_at (P:=P) c.w 0 t ty t' i z sz' bytes ht hi1 hi2 hi3 hi4 hzs hsz _ rs.length olds o1 a xs.length cap news n1 n2 n3 (by simp only [maxLen]; omega) q1 (BS _)
              have hne:v'≠.slice none 0 0:=fun e'=>by have:=(r4.1 e').1; simp at this
              obtain ⟨c',k1,k2,k3,k4,k5,k6⟩:=rN v' w' (rs ++ xs) (olds ++ news) (by rintro q ⟨⟩; simp [Ctx.L,hm]) (fun b hb=>⟨g,rfl,by simpa [Value.ownBlock] using hb.symm⟩) (by rintro q ⟨⟩; rfl) (by rw [CH]; exact r2) r3 r5 hne (fun i r hi=>by
                have hol:olds.length=rs.length * sz':=o1.1
                by_cases hil:i<rs.length
                · rw [AF hil] at hi
                  refine ⟨(o5 i r hi).1,fun j y hj=>?_⟩
                  have:=(o5 i r hi).2 j y hj
                  refine ⟨this.1,?_⟩
                  have hjl:j<sz':=by rw [← (o5 i r hi).1]; exact (Zw.1 hj).1
                  have hlt:i * sz'+j<rs.length * sz':=by
                    calc i * sz'+j<i * sz'+sz':=by omega
                      _=(i+1) * sz':=by rw [BJ,CC]
                      _≤rs.length * sz':=AI _ hil
                  rw [Zr,AF (by omega),← Zr]
                  exact this.2
                · rw [AJ (by omega)] at hi
                  refine ⟨hl _ r hi,fun j y hj=>?_⟩
                  have:=n4 _ r hi j y hj
                  refine ⟨this.1,?_⟩
                  have e1:i * sz'+j - olds.length=(i - rs.length) * sz'+j:=by rw [hol,Nat.sub_mul]; have:rs.length * sz'≤i * sz':=AI _ (by omega); omega
                  have e2:olds.length≤i * sz'+j:=by rw [hol]; have:rs.length * sz'≤i * sz':=AI _ (by omega); omega
                  rw [Zr,AJ e2,e1,← Zr]
                  exact this.2)
              exact ⟨c',v',by rw [k1]; exact r1,k2,k3,by simpa [ups,eB] using k4,k5,by simpa using k6⟩
        · cases h
      · cases h
    · cases h

variable {P:Program} {c:Ctx}

theorem Bv {g0 t t2 e ty sz:Nat} {x y:AV} {v u:Value} {r:OR} (hc:Gd c) (ht:P.underlying t=some (.slice e)) (hn:(P.info? e).map (·.size)=some sz) (hx:VR c x v) (hy:VR c y u)
    (h:jU c.m sz x y=some r):Ok P c g0 r (Builtin.copy_ #[t,t2] ty #[v,u]):=by
  unfold jU at h
  split at h
  · cases h
  · rename_i xs rd hrows
    obtain ⟨hl,A,cap,rfl,hA⟩:=mI hc hy hrows
    split at h
    · rename_i g len
      split at h
      · rename_i t' sz' rs hm
        split at h
        · rename_i hq
          obtain ⟨rfl,rfl,_⟩:=hq
          obtain rfl:=Zm h
          cases hx with
          | slm g len a n cap0 hU hAA =>
            obtain ⟨rfl,rfl,rfl⟩:=hAA (by simp [Ctx.L,hm])
            obtain ⟨cs,k1,k2,k3,k4,k5,k7⟩:=hc.rows g t' sz' rs hm
            -- the source's values
            obtain ⟨news,n1,n2,n3,n4⟩:∃ news:List Value,news.length=xs.length * sz'∧(∀ a,A=some a→∀ j u,news[j]?=some u→c.w.cell? (a.add j)=some u)∧(∀ u∈news,u.oneCell'=true) ∧
                ∀ (i:Nat) (r:List AV),xs[i]?=some r→∀ (j:Nat) (y:AV),r[j]?=some y→y.one=true∧VR c y (news.getD (i * sz'+j) bX):=by
              rcases hA with rfl | ⟨a,rfl,hcell⟩
              · exact ⟨[],by simp,by simp,by simp,by simp⟩
              · obtain ⟨news,n1,n2,n3,n4⟩:=kM hl hcell
                exact ⟨news,n1,fun b hb=>by obtain rfl:=Zm hb; exact n2,n3,n4⟩
            generalize hmn:min xs.length rs.length=m
            have hm1:m≤xs.length:=by omega
            have hm2:m≤rs.length:=by omega
            have hle:m * sz'≤xs.length * sz':=AI _ hm1
            have hfit:0+0+(news.take (m * sz')).length≤cs.size:=by
              rw [DA,n1,DY hle,k3,BF]
              exact AI _ (by omega)
            have hst:=run_storeCells_at P (c.ρ g).blk 0 t' (news.take (m * sz')) 0 cs c.w k1 hfit (fun u hu=>n3 u (List.mem_of_mem_take hu))
            have hld:(Builtin.firstCells sz' m (.slice A xs.length cap)).run P c.w=.ok (news.take (m * sz')).toArray c.w:=by
              cases A with
              | none =>
                have:xs=[]:=by
                  rcases hA with h0 | ⟨a,ha,_⟩
                  · exact h0
                  · cases ha
                subst this
                have:news=[]:=CQ (by simpa using n1)
                subst this
                simp [Builtin.firstCells]
              | some a =>
                have:=run_loadCells_list (P:=P) c.w a (news.take (m * sz')) (fun j u hj=>by
                  rw [AW] at hj
                  split at hj
                  · exact n2 a rfl j u hj
                  · cases hj)
                rw [DA,n1,DY hle] at this
                simpa [Builtin.firstCells] using this
            have hnl:(news.take (m * sz')).length=m * sz':=by rw [DA,n1,DY hle]
            simp only [BF,List.take_zero,BE] at hst
            generalize hnew:news.take (m * sz') ++ cs.toList.drop (news.take (m * sz')).length=new at hst
            have hnew?:∀ j,new[j]?=if j<m * sz' then news[j]? else cs[j]?:=by
              intro j
              rw [← hnew]
              by_cases hj:j<m * sz'
              · rw [if_pos hj,AF (by omega),AW,if_pos hj]
              · rw [if_neg hj,AJ (by omega),hnl,AU,show m * sz'+(j - m * sz')=j from by omega]; simp
            have hnsz:new.length=cs.size:=by
              rw [← hnew,CH,List.length_drop,hnl]; simp only [BO]
              have:m * sz'≤cs.size:=by rw [k3]; exact AI _ (by omega)
              omega
            have hb : BlkOk c (c.ρ g) (.cells new.toArray t' (0,0)) (.rows t' sz' (xs.take rs.length ++ rs.drop xs.length)):=by
              refine ⟨new.toArray,rfl,k2,by simp [hnsz,k3],by simp; omega,k5,fun i q hi=>?_⟩
              by_cases him:i<m
              · rw [AF (by simp; omega),AW,if_pos (by omega)] at hi
                refine ⟨hl i q hi,fun j y hj=>?_⟩
                have:=n4 i q hi j y hj
                refine ⟨this.1,?_⟩
                have hjl:j<sz':=by rw [← hl i q hi]; exact (Zw.1 hj).1
                have hlt:i * sz'+j<m * sz':=by
                  calc i * sz'+j<i * sz'+sz':=by omega
                    _=(i+1) * sz':=by rw [BJ,CC]
                    _≤m * sz':=AI _ him
                have e:=hnew? (i * sz'+j)
                rw [if_pos hlt] at e
                have h2:=this.2
                rw [Zr] at h2
                simpa [Zp,e] using h2
              · have hi2:rs[i]?=some q:=by
                  rw [AJ (by simp; omega),AU,DA] at hi
                  rcases Nat.le_total xs.length rs.length with hxy | hxy
                  · rw [← hi]; congr 1; omega
                  · rw [BI (by omega)] at hi; cases hi
                obtain ⟨hql,hqv⟩:=k7 i q hi2
                refine ⟨hql,fun j y hj=>?_⟩
                have:=hqv j y hj
                refine ⟨this.1,?_⟩
                have hge:¬ (i * sz'+j<m * sz'):=by
                  have:m * sz'≤i * sz':=AI _ (by omega)
                  omega
                have e:=hnew? (i * sz'+j)
                rw [if_neg hge] at e
                simpa [Zp,e] using this.2
            obtain ⟨g1,g2⟩:=hc.write hm (w':=c.w.setRow (c.ρ g).blk new.toArray) rfl rfl rfl (by simp) (setRow_heap _ _ _ _ _ _ k1) (fun i _ hi=>setRow_other _ _ _ _ hi) hb
            have hmi:(min (xs.length:Int) (rs.length:Int))=(m:Int):=by omega
            refine ⟨_,.int .i64 m,?_,g1,g2,rfl,fun n hn=>.inr hn,by rw [hmi]; exact .int _ _ (oH (by omega))⟩
            have hmin:Nat.min xs.length rs.length=m:=hmn
            simp only [Builtin.copy_,Sem.run_bind,run_underlying ht,Result.andThen_ok,Builtin.lenOf,Sem.run_pure,hmin,bH hn,hld,hst,goInt]
            simp [List.getElem?_toArray,run_underlying ht,Builtin.lenOf,hmin,bH hn,hld,hst,goInt]
        · cases h
      · cases h
    · cases h

theorem iH {x:AV} {v:Value} {k:IntKind} {i:Int} {y:Nat} {code:BoundsCode} (hx:VR c x v) (he:x=.int k i) (h0:0≤i) (h1:i≤y) (w:World):(Instr.sliceBound v y code).run P w=.ok i.toNat w:=by
  subst he
  cases hx
  simp [Instr.sliceBound,asIntOf,h0,h1]

variable {P:Program} {c:Ctx}

theorem mZ (a:Addr):a.add 0=a:=by simp [Addr.add]

theorem Cp {g0 t e sz:Nat} {x:AV} {v:Value} {lo hi:Option AV} {vl vh:Option Value} {r:OR} (hc:Gd c) (hg:¬ c.U g0) (ht:P.underlying t=some (.slice e)) (hn:(P.info? e).map (·.size)=some sz)
    (hx:VR c x v) (hlo:(lo=none∧vl=none)∨∃ y u,lo=some y∧vl=some u∧VR c y u) (hhi:(hi=none∧vh=none)∨∃ y u,hi=some y∧vh=some u∧VR c y u)
    (h:gO c.m g0 sz x lo hi=some r):Ok P c g0 r (Instr.sliceAt t v vl vh none):=by
  -- the run,once the bounds are known
  have run:∀ (a:Option Addr) (n cap:Nat) (l k:Int),(lo=none∧l=0∨∃ q,lo=some (.int q l))→(hi=none∧k=n∨∃ q,hi=some (.int q k))→0≤l→l≤k→k≤n→n≤cap →
      (Instr.sliceAt t (.slice a n cap) vl vh none).run P c.w=.ok (.slice (if cap=l.toNat then a else a.map (·.add (l.toNat * sz))) (k.toNat - l.toNat) (cap - l.toNat)) c.w:=by
    intro a n cap l k h1 h2 h3 h4 h5 h6
    rcases hlo with ⟨e1,rfl⟩ | ⟨y,u,e1,rfl,hy⟩ <;> rcases hhi with ⟨e2,rfl⟩ | ⟨y2,u2,e2,rfl,hy2⟩
    · have e3:l=0:=h1.elim (fun h=>h.2) (fun ⟨q,h⟩=>by rw [e1] at h; cases h)
      have e4:k=n:=h2.elim (fun h=>h.2) (fun ⟨q,h⟩=>by rw [e2] at h; cases h)
      subst e3; subst e4
      simp [Instr.sliceAt,run_underlying ht,Instr.slice,Instr.sliceBounds,bH hn]
    · have e3:l=0:=h1.elim (fun h=>h.2) (fun ⟨q,h⟩=>by rw [e1] at h; cases h)
      obtain ⟨q2,h⟩:∃ q,hi=some (.int q k):=h2.elim (fun h=>by have:=h.1; rw [e2] at this; cases this) id
      rw [e2] at h
      have b2:=fun code=>iH (P:=P) (code:=code) (y:=cap) hy2 (Zm h) (by omega) (by omega) c.w
      subst e3
      simp [Instr.sliceAt,run_underlying ht,Instr.slice,Instr.sliceBounds,bH hn,b2]
    · have e4:k=n:=h2.elim (fun h=>h.2) (fun ⟨q,h⟩=>by rw [e2] at h; cases h)
      obtain ⟨q1,h⟩:∃ q,lo=some (.int q l):=h1.elim (fun h=>by have:=h.1; rw [e1] at this; cases this) id
      rw [e1] at h
      have b1:=fun code=>iH (P:=P) (code:=code) (y:=k.toNat) hy (Zm h) h3 (by omega) c.w
      subst e4
      simp only [Int.toNat_natCast] at b1
      simp [Instr.sliceAt,run_underlying ht,Instr.slice,Instr.sliceBounds,bH hn,b1]
    · obtain ⟨q1,h⟩:∃ q,lo=some (.int q l):=h1.elim (fun h=>by have:=h.1; rw [e1] at this; cases this) id
      obtain ⟨q2,h'⟩:∃ q,hi=some (.int q k):=h2.elim (fun h=>by have:=h.1; rw [e2] at this; cases this) id
      rw [e1] at h
      rw [e2] at h'
      have b1:=fun code=>iH (P:=P) (code:=code) (y:=k.toNat) hy (Zm h) h3 (by omega) c.w
      have b2:=fun code=>iH (P:=P) (code:=code) (y:=cap) hy2 (Zm h') (by omega) (by omega) c.w
      simp [Instr.sliceAt,run_underlying ht,Instr.slice,Instr.sliceBounds,bH hn,b1,b2]
  cases x with
  | slv sz' rows =>
    simp only [gO] at h
    split at h
    · rename_i l k el ek
      split at h
      · rename_i hq
        obtain ⟨rfl,q1,q2,q3⟩:=hq
        obtain rfl:=Zm h
        have hl:lo=none∧l=0∨∃ q,lo=some (.int q l):=by
          cases lo with
          | none=>left; simp at el; exact ⟨rfl,el.symm⟩
          | some y=>right; cases y <;> simp at el; rename_i q n; subst el; exact ⟨q,rfl⟩
        have hk:hi=none∧k=rows.length∨∃ q,hi=some (.int q k):=by
          cases hi with
          | none=>left; simp at ek; exact ⟨rfl,ek.symm⟩
          | some y=>right; cases y <;> simp at ek; rename_i q n; subst ek; exact ⟨q,rfl⟩
        cases hx with
        | slv0 =>
          have hr:=run none 0 0 l k hl hk q1 q2 (by simpa using q3) (AP _)
          refine Ok.same hc hr rfl ?_
          have e1:l=0:=by simp at q3; omega
          have e2:k=0:=by simp at q3; omega
          subst e1; subst e2
          simpa using VR.slv0 (c:=c) sz'
        | slve _ a cap hcap =>
          have hr:=run (some a) 0 cap l k hl hk q1 q2 (by simpa using q3) (BS _)
          refine Ok.same hc hr rfl ?_
          have e1:l=0:=by simp at q3; omega
          have e2:k=0:=by simp at q3; omega
          subst e1; subst e2
          by_cases h0:cap=0
          · subst h0; simpa using VR.slve (c:=c) sz' a 0 (by simp [maxLen])
          · simpa [h0,mZ] using VR.slve (c:=c) sz' a cap hcap
        | slvs _ _ a cap us h0 h1 h2 h3 h4 h5 h6 h7 h8 =>
          have hr:=run (some a) rows.length cap l k hl hk q1 q2 q3 h1
          refine Ok.same hc hr rfl ?_
          have hlen:((rows.drop l.toNat).take (k.toNat - l.toNat)).length=k.toNat - l.toNat:=by simp; omega
          by_cases hz:k.toNat - l.toNat=0
          · have:(rows.drop l.toNat).take (k.toNat - l.toNat)=[]:=CQ (by rw [hlen,hz])
            rw [this,hz]
            by_cases hcl:cap=l.toNat
            · rw [if_pos hcl]; exact .slve _ _ _ (by omega)
            · rw [if_neg hcl]; exact .slve _ _ _ (by omega)
          · rw [if_neg (by omega)]
            have hin:∀ (i:Nat) (r:List AV),((rows.drop l.toNat).take (k.toNat - l.toNat))[i]?=some r→rows[l.toNat+i]?=some r:=by
              intro i r hi
              rw [AW] at hi
              split at hi
              · rwa [AU] at hi
              · cases hi
            have := VR.slvs (c:=c) sz' ((rows.drop l.toNat).take (k.toNat - l.toNat)) (a.add (l.toNat * sz')) (cap - l.toNat) (fun i j=>us (l.toNat+i) j) (by intro e; rw [e] at hlen; simp at hlen; omega) (by rw [hlen]; omega) (by omega)
              (by rwa [bU]) (by rwa [bU]) (fun i r hi=>h5 _ r (hin i r hi)) (fun i r j y hi hj=>by
                rw [eI,← h6 _ r j y (hin i r hi) hj]; congr 2; rw [BJ]; omega) (fun i r j y hi hj=>h7 _ r j y (hin i r hi) hj) (fun i r j y hi hj=>h8 _ r j y (hin i r hi) hj)
            rw [hlen] at this
            exact this
      · cases h
    · cases h
  | slm g len =>
    cases lo with
    | some y=>simp [gO] at h
    | none =>
      cases hi with
      | none=>simp [gO] at h
      | some y =>
        cases y with
        | int q k =>
          simp only [gO] at h
          split at h
          · rename_i t' sz' rs hm
            split at h
            · rename_i hq
              obtain ⟨rfl,q1,q2,rfl⟩:=hq
              obtain rfl:=Zm h
              cases hx with
              | slm g len a n cap hU hA =>
                obtain ⟨rfl,rfl,rfl⟩:=hA (by simp [Ctx.L,hm])
                obtain ⟨cs,k1,k2,k3,k4,k5,k7⟩:=hc.rows g t' sz' rs hm
                have hr:=run (some ⟨(c.ρ g).blk,0,none⟩) rs.length (c.ρ g).cap 0 k (.inl ⟨rfl,rfl⟩) (.inr ⟨q,rfl⟩) (Int.le_refl _) q1 q2 k4
                have hin:∀ (i:Nat) (r:List AV),(rs.take k.toNat)[i]?=some r→rs[i]?=some r:=by
                  intro i r hi
                  rw [AW] at hi
                  split at hi
                  · exact hi
                  · cases hi
                obtain ⟨h1,h2⟩:=hc.move (g0:=g0) hg (k:=some g) (by rintro q ⟨⟩; simp [Ctx.L,hm]) (ni:=c.ρ g) (b:=.rows t' sz' (rs.take k.toNat)) (o:=.cells cs t' (0,0)) (w':=c.w) rfl rfl rfl (AP _)
                  (.inr ⟨g,rfl,rfl⟩) (hc.lt g (by simp [Ctx.L,hm])) k1 (fun _ _ _=>rfl) ⟨cs,rfl,k2,k3,by simp; omega,k5,fun i r hi=>k7 i r (hin i r hi)⟩
                refine ⟨c.move g0 (some g) (c.ρ g) (.rows t' sz' (rs.take k.toNat)) c.w,_,hr,h1,h2,by simp [Ctx.move,eB,ups],fun n hn=>hn,?_⟩
                have e:(if (c.ρ g).cap=(0:Int).toNat then some (⟨(c.ρ g).blk,0,none⟩:Addr) else (some (⟨(c.ρ g).blk,0,none⟩:Addr)).map (·.add ((0:Int).toNat * sz')))=some ⟨(c.ρ g).blk,0,none⟩:=by
                  split
                  · rfl
                  · simp [mZ]
                rw [e]
                exact .slm g0 _ _ _ _ (.inl rfl) (fun _=>by simp [Ctx.move])
            · cases h
          · cases h
        | _=>simp [gO] at h
  | _=>simp [gO] at h

theorem mV {t:TypeId} {k:IntKind} (ht:P.underlying t=some (.int k)) (b:Bool) (d:Nat) (v:Value) (w:World):(Instr.checkKey b (d+1) t v).run P w=.ok () w:=by
  simp only [Instr.checkKey,Sem.run_bind,run_underlying ht,Result.andThen_ok]
  rfl
theorem cO {t:TypeId} {k:IntKind} (ht:P.underlying t=some (.int k)) (b:Bool) (v:Value) (w:World):(Instr.checkKey b 10000 t v).run P w=.ok () w:=mV ht b 9999 v w

theorem fH {kd : IntKind}:∀ (es:List (AV×AV)) (ents:List MapEntry) (x:AV) (u:Value) (n:Nat) (r:Option (Nat×AV)),VR c x u→ents.length=es.length →
    (∀ (i:Nat) (k v:AV),es[i]?=some (k,v)→∃ e,ents[i]?=some e∧VR c k e.key∧VR c v e.val)→fJ x es=some r →
    ∃ r',Instr.findNow (.int kd) u ents n=some r'∧(match r,r' with | none,none=>True | some (i,v),some (j,z)=>j=n+i∧VR c v z∧i<es.length | _,_=>False)
  | [],[],x,u,n,r,_,_,_,h=>by simp only [fJ,Zn] at h; subst h; exact ⟨none,rfl,trivial⟩
  | [],_ :: _,_,_,_,_,_,h,_,_=>by simp at h
  | _ :: _,[],_,_,_,_,_,h,_,_=>by simp at h
  | (k, v) :: es, e :: ents,x,u,n,r,hx,hl,hr,h=>by
    obtain ⟨e',he,hk,hv⟩:=hr 0 k v rfl
    obtain rfl:e=e':=by simpa using he
    simp only [fJ] at h
    cases hx with
    | int kx a ha =>
      cases hk':e.key with
      | int kk b =>
        rw [hk'] at hk
        cases hk with
        | int _ _ hb =>
          simp only [fI] at h
          by_cases hkk:kx=kk
          · subst hkk
            rw [if_pos rfl] at h
            by_cases hab:a=b
            · subst hab
              simp only [decide_true,Zn] at h
              subst h
              refine ⟨some (n,e.val),?_,rfl,hv,by simp⟩
              simp [Instr.findNow,Instr.sameNow,hk']
            · simp only [hab,decide_false] at h
              rw [Zl] at h
              obtain ⟨r1,h1,rfl⟩:=h
              obtain ⟨r',g1,g2⟩:=fH (kd:=kd) es ents (.int kx a) (.int kx a) (n+1) r1 (.int _ _ ha) (by simpa using hl) (fun i k v hi=>by have:=hr (i+1) k v (by simpa using hi); simpa using this) h1
              refine ⟨r',?_,?_⟩
              · have:(a == b)=false:=by simpa using hab
                simp [Instr.findNow,Instr.sameNow,hk',this,g1]
              · cases r1 with
                | none=>cases r' with
                  | none=>trivial
                  | some _=>exact g2
                | some p=>cases r' with
                  | none=>exact g2
                  | some q=>obtain ⟨g3,g4,g5⟩:=g2; exact ⟨by omega,g4,by simp; omega⟩
          · rw [if_neg hkk] at h; cases h
        | und=>simp [fI] at h
      | _=>rw [hk'] at hk; cases hk <;> simp [fI] at h
    | _=>simp [fI] at h

theorem cW {t:TypeId} {k:IntKind} (ht:P.underlying t=some (.int k)) {u:Value} {ents:List MapEntry} {r:Option (Nat×Value)} (h:Instr.findNow (.int k) u ents 0=some r) (w:World):(Instr.findKey t u ents).run P w=.ok r w:=by
  simp only [Instr.findKey,Sem.run_bind,run_underlying ht,Result.andThen_ok,h,Sem.run_pure]

theorem Stmp.push {en:Array MapEntry} {clk:Nat} (h:Stmp en clk) (k v:Value):Stmp (en.push ⟨k,v,clk⟩) (clk+1):=by
  obtain ⟨h1,h2⟩:=h
  constructor
  · intro b hb
    simp only [Array.toList_push,DX,BG,ED,BV,EI] at hb
    rcases hb with hb | hb
    · have:=h1 b hb; omega
    · omega
  · simp only [Array.toList_push,DX,BG,ED]
    refine List.nodup_append.2 ⟨h2,by simp,fun a ha b hb=>?_⟩
    simp only [EI] at hb
    have:=h1 a ha; omega
theorem Stmp.modify {en:Array MapEntry} {clk:Nat} (h:Stmp en clk) (j:Nat) (k v:Value):Stmp (en.modify j fun e=>{ e with key:=k,val:=v }) clk:=by
  have:(en.modify j fun e=>{ e with key:=k,val:=v }).toList.map (·.born)=en.toList.map (·.born):=by
    apply List.ext_getElem?
    intro i
    simp only [CX,Array.getElem?_toList,DJ]
    split
    · cases en[i]? <;> rfl
    · rfl
  unfold Stmp; rw [this]; exact h
theorem Stmp.erase {en:Array MapEntry} {clk:Nat} (h:Stmp en clk) (j:Nat):Stmp (en.eraseIdxIfInBounds j) clk:=by
  have hs:((en.eraseIdxIfInBounds j).toList.map (·.born)).Sublist (en.toList.map (·.born)):=by
    refine List.Sublist.map _ ?_
    unfold DB
    split
    · rw [Array.toList_eraseIdx]; exact List.eraseIdx_sublist ..
    · exact List.Sublist.refl _
  exact ⟨fun b hb=>h.1 b (hs.mem hb),h.2.sublist hs⟩
theorem cL {w:World} {b:Nat} {es:Array MapEntry} {clk:Nat} (h:w.heap[b]?=some (.map es clk)):(getObj b).run P w=.ok (.map es clk) w:=by
  simp [getObj,Sem.run,h]
theorem cX {w:World} {b:Nat} {es:Array MapEntry} {clk:Nat} (h:w.heap[b]?=some (.map es clk)) (o:Obj):(setObj b o).run P w=.ok () { w with heap:=w.heap.setIfInBounds b o }:=by
  simp [setObj,Sem.run,h]

theorem Ch {g0 t kt et:Nat} {ik:IntKind} {ok:Bool} {zero x y:AV} {z v u:Value} {r:OR} (hc:Gd c) (ht:P.underlying t=some (.map kt et)) (hk:P.underlying kt=some (.int ik)) (hz:∃ i,P.info? et=some i∧i.zero=some z)
    (hzr:VR c zero z) (hx:VR c x v) (hy:VR c y u) (h:gV c.m zero ok x y=some r):Ok P c g0 r (Instr.lookup t v u ok):=by
  obtain ⟨i,hi,hiz⟩:=hz
  have hzrun:∀ w:World,(zeroValue et).run P w=.ok z w:=fun w=>by simp [zeroValue,typeInfo,hi,hiz]
  have tup:∀ (x:AV) (z:Value) (b:Bool),VR c x z→VR c (.tup [x,.bool b]) (.tuple #[z,.bool b]):=fun x z b hx=>.tup _ _ rfl (fun i y hi=>by
    match i with
    | 0=>simp at hi; subst hi; exact hx
    | 1=>simp at hi; subst hi; exact .bool _
    | i+2=>simp at hi)
  cases hx with
  | mapm g a hU hA =>
    simp only [gV] at h
    split at h
    · rename_i es hm
      split at h
      · rw [Zl] at h
        obtain ⟨f,hf,rfl⟩:=h
        obtain rfl:=hA (by simp [Ctx.L,hm])
        obtain ⟨en,clk,k1,⟨k2,ks⟩,k3⟩:=hc.mp g es hm
        obtain ⟨f',f1,f2⟩:=fH (kd:=ik) es en.toList y u 0 f hy (by simpa using k2) (fun i k v hi=>by simpa using k3 i k v hi) hf
        have hrun:(Instr.lookup t (.map (some (c.ρ g).blk)) u ok).run P c.w=(match f' with | some (_,v)=>(pure (if ok then .tuple #[v,.bool true] else v):Sem Value) | none=>pure (if ok then .tuple #[z,.bool false] else z)).run P c.w:=by
          simp only [Instr.lookup,Sem.run_bind,run_underlying ht,Result.andThen_ok,cL k1,Sem.run_pure,cO hk,cW hk f1]
          cases f' with
          | none=>simp only [Sem.run_bind,hzrun,Result.andThen_ok,Sem.run_pure]
          | some p=>simp only [Sem.run_bind,Sem.run_pure,Result.andThen_ok]
        cases f with
        | none=>cases f' with
          | some _=>exact f2.elim
          | none =>
            refine Ok.same hc (by rw [hrun]; rfl) rfl ?_
            cases ok
            · exact hzr
            · exact tup _ _ _ hzr
        | some p=>cases f' with
          | none=>exact f2.elim
          | some q =>
            obtain ⟨j,vv⟩:=q
            obtain ⟨i',av⟩:=p
            obtain ⟨_,hv,_⟩:=f2
            refine Ok.same hc (by rw [hrun]; rfl) rfl ?_
            cases ok
            · exact hv
            · exact tup _ _ _ hv
      · cases h
    · cases h
  | mapnil =>
    simp only [gV] at h
    split at h
    · obtain rfl:=Zm h
      have hrun:(Instr.lookup t (.map none) u ok).run P c.w=.ok (if ok then .tuple #[z,.bool false] else z) c.w:=by
        simp only [Instr.lookup,Sem.run_bind,run_underlying ht,Result.andThen_ok,Sem.run_pure,cO hk,cW hk (show Instr.findNow (.int ik) u (#[]:Array MapEntry).toList 0=some none from rfl),hzrun]
      refine Ok.same hc hrun rfl ?_
      cases ok
      · exact hzr
      · exact tup _ _ _ hzr
    · cases h
  | _=>simp [gV] at h

theorem wP {old new:Value} {a b:AV} (ha:VR c a old) (hb:VR c b new) (h:fI b a=some true) (w:World):(Instr.keyThatStays old new).run P w=.ok new w:=by
  cases hb with
  | int k n _ =>
    cases ha with
    | int k' n' _ =>
      simp only [fI] at h
      split at h
      · rename_i hk; subst hk
        simp at h; subst h
        have:Instr.sameBits 10000 (.int k n) (.int k n)=true:=by
          show Instr.sameBits (9999+1) _ _=true
          simp [Instr.sameBits]
        simp [Instr.keyThatStays,this]
      · cases h
    | _=>simp [fI] at h
  | _=>simp [fI] at h

theorem pQ {x:AV}:∀ {es:List (AV×AV)} {i:Nat} {v:AV},fJ x es=some (some (i,v))→∃ k,es[i]?=some (k,v)∧fI x k=some true
  | [],i,v,h=>by simp [fJ] at h
  | (k, w) :: es,i,v,h=>by
    simp only [fJ] at h
    split at h
    · rename_i hk
      simp only [Zn,Prod.mk.injEq] at h
      obtain ⟨rfl,rfl⟩:=h
      exact ⟨k,rfl,hk⟩
    · rw [Zl] at h
      obtain ⟨r,h1,h2⟩:=h
      cases r with
      | none=>simp at h2
      | some p =>
        obtain ⟨i',v'⟩:=p
        simp at h2
        obtain ⟨rfl,rfl⟩:=h2
        obtain ⟨k',g1,g2⟩:=pQ h1
        exact ⟨k',by simpa using g1,g2⟩
    · cases h

theorem sU {g0 t kt et:Nat} {ik:IntKind} {x y q:AV} {v u p:Value} {r:OR} (hc:Gd c) (ht:P.underlying t=some (.map kt et)) (hk:P.underlying kt=some (.int ik)) (hx:VR c x v) (hy:VR c y u) (hq:VR c q p)
    (h:fL c.m x y q=some r):∃ c',(Instr.mapUpdate t v u p).run P c.w=.ok () c'.w∧Gd c'∧St c c'∧c'.m=ups c.m r.ups∧(∀ n,c'.U n→n=g0∨c.U n)∧r.v=.und:=by
  cases hx with
  | mapm g a hU hA =>
    simp only [fL] at h
    split at h
    · rename_i es hm
      split at h
      · rw [Zl] at h
        obtain ⟨f,hf,rfl⟩:=h
        obtain rfl:=hA (by simp [Ctx.L,hm])
        obtain ⟨en,clk,k1,⟨k2,ks⟩,k3⟩:=hc.mp g es hm
        obtain ⟨f',f1,f2⟩:=fH (kd:=ik) es en.toList y u 0 f hy (by simpa using k2) (fun i k v hi=>by simpa using k3 i k v hi) hf
        have hlt:=hc.lt g (by simp [Ctx.L,hm])
        have wr:∀ (en':Array MapEntry) (clk':Nat) (es':List (AV×AV)),en'.size=es'.length∧Stmp en' clk'→(∀ (i:Nat) (k v:AV),es'[i]?=some (k,v)→∃ e,en'[i]?=some e∧VR c k e.key∧VR c v e.val) →
            Gd { c with m:=put c.m g (some (.mp es')),w:={ c.w with heap:=c.w.heap.setIfInBounds (c.ρ g).blk (.map en' clk') } }∧St c { c with m:=put c.m g (some (.mp es')),w:={ c.w with heap:=c.w.heap.setIfInBounds (c.ρ g).blk (.map en' clk') } } :=
          fun en' clk' es' h1 h2=>hc.write hm rfl rfl rfl (by simp) (by simp [hlt]) (fun i _ hi=>by simp only; rw [CA (Ne.symm hi)]) ⟨en',clk',rfl,h1,h2⟩
        cases f with
        | none => cases f' with
          | some _=>exact f2.elim
          | none =>
            obtain ⟨g1,g2⟩:=wr (en.push { key:=u,val:=p,born:=clk }) (clk+1) (es ++ [(y,q)]) ⟨by simp [k2],ks.push _ _⟩ (fun i k v hi=>by
              by_cases hil:i<es.length
              · rw [AF hil] at hi
                obtain ⟨e,e1,e2⟩:=k3 i k v hi
                exact ⟨e,by rw [Array.getElem?_push,if_neg (by omega)]; exact e1,e2⟩
              · have:i=es.length:=by have:=(Zw.1 hi).1; simp at this; omega
                subst this
                simp at hi
                obtain ⟨rfl,rfl⟩:=hi
                exact ⟨_,by rw [Array.getElem?_push,if_pos k2.symm],hy,hq⟩)
            refine ⟨_,?_,g1,g2,rfl,fun n hn=>.inr hn,rfl⟩
            simp only [Instr.mapUpdate,Sem.run_bind,run_underlying ht,Result.andThen_ok,cL k1,cO hk,cW hk f1,cX k1]
        | some pr=>cases f' with
          | none=>exact f2.elim
          | some qr =>
            obtain ⟨j,vv⟩:=qr
            obtain ⟨i',av⟩:=pr
            obtain ⟨hj,hv,hil⟩:=f2
            rw [BF] at hj
            subst hj
            obtain ⟨ko,ho1,ho2⟩:=pQ hf
            obtain ⟨e0,e1,e2,e3⟩:=k3 j ko av ho1
            have hks:=wP (P:=P) (c:=c) e2 hy ho2 c.w
            have hg:(en[j]?.map (·.key)).getD u=e0.key:=by simp [e1]
            obtain ⟨g1,g2⟩:=wr (en.modify j fun e=>{ e with key:=u,val:=p }) clk (es.set j (y,q)) ⟨by simp [k2],ks.modify _ _ _⟩ (fun i k v hi=>by
              rw [CO] at hi
              by_cases hij:j=i
              · subst hij
                rw [if_pos rfl,if_pos hil] at hi
                simp at hi
                obtain ⟨rfl,rfl⟩:=hi
                exact ⟨_,by rw [DJ,if_pos rfl,e1]; rfl,hy,hq⟩
              · rw [if_neg hij] at hi
                obtain ⟨e,d1,d2⟩:=k3 i k v hi
                exact ⟨e,by rw [DJ,if_neg hij]; exact d1,d2⟩)
            refine ⟨_,?_,g1,g2,rfl,fun n hn=>.inr hn,rfl⟩
            simp only [Instr.mapUpdate,Sem.run_bind,run_underlying ht,Result.andThen_ok,cL k1,cO hk,cW hk f1,hg,hks,cX k1]
      · cases h
    · cases h
  | _=>simp [fL] at h

theorem Ah {g0 t t2 kt et ty:Nat} {ik:IntKind} {x y:AV} {v u:Value} {r:OR} (hc:Gd c) (ht:P.underlying t=some (.map kt et)) (hk:P.underlying kt=some (.int ik)) (hx:VR c x v) (hy:VR c y u)
    (h:kK c.m x y=some r):Ok P c g0 r (Builtin.delete_ #[t,t2] ty #[v,u]):=by
  cases hx with
  | mapm g a hU hA =>
    simp only [kK] at h
    split at h
    · rename_i es hm
      split at h
      · rw [Zl] at h
        obtain ⟨f,hf,rfl⟩:=h
        obtain rfl:=hA (by simp [Ctx.L,hm])
        obtain ⟨en,clk,k1,⟨k2,ks⟩,k3⟩:=hc.mp g es hm
        obtain ⟨f',f1,f2⟩:=fH (kd:=ik) es en.toList y u 0 f hy (by simpa using k2) (fun i k v hi=>by simpa using k3 i k v hi) hf
        have hlt:=hc.lt g (by simp [Ctx.L,hm])
        have wr:∀ (en':Array MapEntry) (clk':Nat) (es':List (AV×AV)),en'.size=es'.length∧Stmp en' clk'→(∀ (i:Nat) (k v:AV),es'[i]?=some (k,v)→∃ e,en'[i]?=some e∧VR c k e.key∧VR c v e.val) →
            Gd { c with m:=put c.m g (some (.mp es')),w:={ c.w with heap:=c.w.heap.setIfInBounds (c.ρ g).blk (.map en' clk') } }∧St c { c with m:=put c.m g (some (.mp es')),w:={ c.w with heap:=c.w.heap.setIfInBounds (c.ρ g).blk (.map en' clk') } } :=
          fun en' clk' es' h1 h2=>hc.write hm rfl rfl rfl (by simp) (by simp [hlt]) (fun i _ hi=>by simp only; rw [CA (Ne.symm hi)]) ⟨en',clk',rfl,h1,h2⟩
        cases f with
        | none=>cases f' with
          | some _=>exact f2.elim
          | none =>
            obtain ⟨g1,g2⟩:=wr en clk es ⟨k2,ks⟩ k3
            refine ⟨_,.tuple #[],?_,g1,g2,rfl,fun n hn=>.inr hn,.tup _ _ rfl (by simp)⟩
            simp only [Builtin.delete_,Sem.run_bind,run_underlying ht,Result.andThen_ok,cL k1,cO hk,cW hk f1,cX k1]
            simp [run_underlying ht,cL k1,cO hk,cW hk f1,cX k1]
        | some pr=>cases f' with
          | none=>exact f2.elim
          | some qr =>
            obtain ⟨j,vv⟩:=qr
            obtain ⟨i',av⟩:=pr
            obtain ⟨hj,hv,hil⟩:=f2
            rw [BF] at hj
            subst hj
            have hjen:j<en.size:=by omega
            obtain ⟨g1,g2⟩:=wr (en.eraseIdxIfInBounds j) clk (es.eraseIdx j) ⟨by simp [DB,hjen,List.length_eraseIdx,hil,k2],ks.erase _⟩ (fun i k v hi=>by
              rw [List.getElem?_eraseIdx] at hi
              have e:(en.eraseIdxIfInBounds j)[i]?=if i<j then en[i]? else en[i+1]?:=by
                simp [DB,hjen,Array.getElem?_eraseIdx]
              rw [e]
              split at hi
              · rw [if_pos (by assumption)]; exact k3 i k v hi
              · rw [if_neg (by assumption)]; exact k3 (i+1) k v hi)
            refine ⟨_,.tuple #[],?_,g1,g2,rfl,fun n hn=>.inr hn,.tup _ _ rfl (by simp)⟩
            simp [Builtin.delete_,run_underlying ht,cL k1,cO hk,cW hk f1,cX k1]
      · cases h
    · cases h
  | _=>simp [kK] at h

end Go.Sak
