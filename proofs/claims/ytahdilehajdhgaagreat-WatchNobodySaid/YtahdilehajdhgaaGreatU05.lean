/- Part U05 of the proofs about the program: Row, RowZ. Conditions: none. -/
import Derived.Test.YtahdilehajdhgaaGreatU03
import Derived.ProofKit
import Derived.ChangeShapes
import Derived.WideShapes
import Derived.ChangeArms
import Derived.DataShut
import Derived.Carry
import Derived.OpenShut
import Derived.ChangeOld
import Derived.SizedLaws
import Derived.Conc.Holds
import Derived.Conc.LeavingOf
open List renaming getElem?_eq_getElem→Zz,getElem?_eq_some_iff→Zw,mapM_cons→EH,range→BR
open Option renaming bind_eq_some_iff→AS,map_eq_some_iff→Zl
namespace Go.Sak
open Go Go.RowKit
set_option linter.unusedVariables false
set_option linter.unusedSimpArgs false

inductive CellKd where
  | int (k:IntKind)
  | bool
  | sl (l:List (Option IntKind))
def Bj:Option IntKind→Value→Prop
  | some k,v=>∃ n,v=.int k n∧sL k n
  | none,v=>∃ b,v=.bool b
def oW:List (Option IntKind)→List Value→Prop
  | [],[]=>True
  | k :: ks,v :: vs=>Bj k v∧oW ks vs
  | _,_=>False
def Hg (w:World) (l:List (Option IntKind)) (v:Value):Prop :=
  v=.slice none 0 0∨∃ a len cap,v=.slice (some a) len cap∧len≤cap∧cap≤maxLen∧∀ i,i<len→∃ us:List Value,us.length=l.length∧(∀ j,j<l.length→w.cell? (a.add (i * l.length+j))=us[j]?)∧oW l us
def Dj (w:World):CellKd→Value→Prop
  | .int k,v=>Bj (some k) v
  | .bool,v=>Bj none v
  | .sl l,v=>Hg w l v
def Cells (w:World):List CellKd→List Value→Prop
  | [],[]=>True
  | k :: ks,v :: vs=>Dj w k v∧Cells w ks vs
  | _,_=>False
theorem Cells.len {w:World}:∀ {ks:List CellKd} {vs:List Value},Cells w ks vs→ks.length=vs.length
  | [],[],_=>rfl
  | _ :: _,_ :: _,h=>by simp [Cells.len h.2]
  | [],_ :: _,h=>h.elim
  | _ :: _,[],h=>h.elim
theorem Cells.app {w:World}:∀ {ks ks':List CellKd} {vs vs':List Value},Cells w ks vs→Cells w ks' vs'→Cells w (ks ++ ks') (vs ++ vs')
  | [],_,[],_,_,h=>h
  | _ :: _,_,_ :: _,_,h,h'=>⟨h.1,h.2.app h'⟩
  | [],_,_ :: _,_,h,_=>h.elim
  | _ :: _,_,[],_,h,_=>h.elim
def jH:List CellKd→Option (List (Option IntKind))
  | []=>some []
  | .int k :: ks=>(jH ks).map (some k :: ·)
  | .bool :: ks=>(jH ks).map (none :: ·)
  | .sl _ :: _=>none
theorem oK {w:World}:∀ {ks:List CellKd} {l:List (Option IntKind)} {vs:List Value},jH ks=some l→Cells w ks vs→oW l vs
  | [],l,vs,h,hc=>by
    simp [jH] at h; subst h
    cases vs with
    | nil=>trivial
    | cons v vs=>exact hc.elim
  | .int k :: ks,l,vs,h,hc=>by
    simp only [jH,Zl] at h
    obtain ⟨l',h1,rfl⟩:=h
    cases vs with
    | nil=>exact hc.elim
    | cons v vs=>exact ⟨hc.1,oK h1 hc.2⟩
  | .bool :: ks,l,vs,h,hc=>by
    simp only [jH,Zl] at h
    obtain ⟨l',h1,rfl⟩:=h
    cases vs with
    | nil=>exact hc.elim
    | cons v vs=>exact ⟨hc.1,oK h1 hc.2⟩
  | .sl _ :: _,l,vs,h,hc=>by cases h
def lZ (P:Program) (g:TypeId→Option (List CellKd)):List Field→Nat→Option (List CellKd)
  | [],_=>some []
  | f :: fs,off=>match g f.type,lZ P g fs (off+P.cellsOf f.type) with
    | some ks,some rs=>if f.offset=off∧P.cellsOf f.type=ks.length then some (ks ++ rs) else none
    | _,_=>none
def nG (P:Program):Nat→TypeId→Option (List CellKd)
  | 0,_=>none
  | n + 1,t=>match P.underlying t with
    | some (.int k)=>some [.int k]
    | some .bool=>some [.bool]
    | some (.slice e)=>match (nG P n e).bind jH with
      | some l=>if P.cellsOf e=l.length then some [.sl l] else none
      | none=>none
    | some (.struct fs)=>match lZ P (nG P n) fs.toList 0 with
      | some ks=>if P.cellsOf t=ks.length then some ks else none
      | none=>none
    | _=>none
section
variable {H:Type} {enc:TypeId×Value→H} {P:Program} {w:World} {base:Nat} {spare:Nat→Bool} {held:Bool}
theorem sT {α β:Type} {f:α→Option β}:∀ {l:List α} {r:List β},l.mapM f=some r→∀ i:Nat,(l[i]?).bind f=r[i]?
  | [],r,h,i=>by simp at h; subst h; simp
  | x :: l,r,h,i=>by
    rw [EH] at h
    cases hx:f x with
    | none=>simp [hx] at h
    | some y =>
      cases hl:l.mapM f with
      | none=>simp [hx,hl] at h
      | some ys =>
        simp [hx,hl] at h
        subst h
        cases i with
        | zero=>simp [hx]
        | succ i=>simpa using sT hl i
theorem nI {α β:Type} {f:α→Option β}:∀ {l:List α} {r:List β},l.mapM f=some r→r.length=l.length
  | [],r,h=>by simp at h; subst h; rfl
  | x :: l,r,h=>by
    rw [EH] at h
    cases hx:f x with
    | none=>simp [hx] at h
    | some y =>
      cases hl:l.mapM f with
      | none=>simp [hx,hl] at h
      | some ys =>
        simp [hx,hl] at h
        subst h
        simp [nI hl]
theorem vD {a:Addr} {n:Nat} {us:List Value} (h:w.cells? base a n=some us):us.length=n∧∀ j,j<n→w.cell? (a.add j)=us[j]?:=by
  unfold World.cells? at h
  split at h
  · have hl:us.length=n:=by
      simpa using nI h
    refine ⟨hl,fun j hj=>?_⟩
    have:=sT h j
    rw [List.getElem?_range hj] at this
    simpa using this
  · cases h
theorem tW : ∀ {n : Nat} {t:TypeId} {ks:List CellKd},nG P n t=some ks→∀ {fuel:Nat} {cs:List Value} {x:DataW H×List MemPlace},DataW.trod enc P w base spare held fuel t cs=some x→Cells w ks cs:=by
  intro n
  induction n with
  | zero=>intro t ks h; cases h
  | succ n ih =>
    intro t ks h fuel cs x hx
    unfold nG at h
    split at h
    · rename_i k ht
      cases h
      obtain ⟨m,rfl,_,hw⟩:=DataW.trod_int ht hx
      exact ⟨⟨m,rfl,(Lit.wf_int_iff _ _).1 hw⟩,trivial⟩
    · rename_i ht
      cases h
      obtain ⟨b,rfl,_⟩:=DataW.trod_bool ht hx
      exact ⟨⟨b,rfl⟩,trivial⟩
    · rename_i e ht
      split at h
      · rename_i l hl
        split at h
        · rename_i hsz
          cases h
          obtain ⟨ke,hke,hon⟩:=AS.1 hl
          rcases DataW.trod_slice ht hx with ⟨rfl,_⟩ | ⟨a,len,cap,elems,rest,m,rfl,rfl,_,_,h1,h2,h3,h4,_⟩
          · exact ⟨.inl rfl,trivial⟩
          · refine ⟨.inr ⟨a,len,cap,rfl,h1,h2,fun i hi=>?_⟩,trivial⟩
            have hg:=h4 i hi
            rw [Zz (h3 ▸ hi)] at hg
            obtain ⟨us,hu,htr⟩:=AS.1 hg
            obtain ⟨g1,g2⟩:=vD hu
            rw [hsz] at g1 g2
            refine ⟨us,g1,fun j hj=>?_,oK hon (ih hke htr)⟩
            have:=g2 j hj
            rwa [Addr.add_add] at this
        · cases h
      · cases h
    · rename_i fs ht
      split at h
      · rename_i kk hk
        split at h
        · rename_i hsz
          cases h
          obtain ⟨xs,m,rfl,_,hlen,hxl,hf⟩:=DataW.trod_struct ht hx
          have main : ∀ (L:List Field) (i off:Nat) (ks':List CellKd),fs.toList.drop i=L→lZ P (nG P n) L off=some ks'→cs.length=off+ks'.length→Cells w ks' (cs.drop off):=by
            intro L
            induction L with
            | nil =>
              intro i off ks' _ h1 h2
              simp [lZ] at h1; subst h1
              rw [List.drop_of_length_le (by simp at h2; omega)]
              trivial
            | cons f L ihL =>
              intro i off ks' hd h1 h2
              unfold lZ at h1
              split at h1
              · rename_i ka kb ha hb
                split at h1
                · rename_i hc
                  cases h1
                  obtain ⟨hoff,hcs⟩:=hc
                  have hi:fs.toList[i]?=some f:=by
                    have:=congrArg (·[0]?) hd
                    simpa using this
                  have hfi:=hf i f (by simpa using hi)
                  have hil:i<xs.length:=by
                    rw [hxl]
                    have:=(Zw.1 hi).1
                    simpa using this
                  rw [Zz hil,hoff] at hfi
                  have c1:=ih ha hfi
                  have c2:=ihL (i+1) (off+P.cellsOf f.type) kb (by
                    have:=congrArg (List.drop 1) hd
                    simpa [List.drop_drop,Nat.add_comm] using this) hb (by rw [h2,hcs]; simp; omega)
                  have:=c1.app c2
                  rwa [← List.drop_drop,List.take_append_drop] at this
                · cases h1
              · cases h1
          have:=main fs.toList 0 0 _ (by simp) hk (by rw [hlen,hsz]; simp)
          simpa using this
        · cases h
      · cases h
    · cases h
end

def VRs (c:Ctx):List AV→List Value→Prop
  | [],[]=>True
  | x :: xs,v :: vs=>x.one=true∧VR c x v∧VRs c xs vs
  | _,_=>False
theorem VRs.at {c:Ctx}:∀ {xs:List AV} {vs:List Value},VRs c xs vs→xs.length=vs.length∧∀ (i:Nat) (x:AV),xs[i]?=some x→x.one=true∧∃ v,vs[i]?=some v∧VR c x v
  | [],[],_=>⟨rfl,fun i x h=>by simp at h⟩
  | x :: xs,v :: vs,h=>by
    obtain ⟨k1,k2⟩:=h.2.2.at
    refine ⟨by simp [k1],fun i y hi=>?_⟩
    cases i with
    | zero=>simp at hi; subst hi; exact ⟨h.1,v,rfl,h.2.1⟩
    | succ i=>simpa using k2 i y (by simpa using hi)
  | [],_ :: _,h=>h.elim
  | _ :: _,[],h=>h.elim
theorem VRs.agg {c:Ctx} {xs:List AV} {vs:Array Value} (h:VRs c xs vs.toList):VR c (.agg xs) (.agg vs):=by
  obtain ⟨h1,h2⟩:=h.at
  refine .agg xs vs (by simpa using h1) (fun i x hi=>(h2 i x hi).1) (fun i x hi=>?_)
  obtain ⟨_,v,hv,hr⟩:=h2 i x hi
  have:vs[i]?=some v:=by simpa using hv
  simpa [Array.getD_eq_getD_getElem?,this] using hr
theorem zM {w:World} {a:Addr} {v:Value} (h:w.cell? a=some v):a.block<w.heap.size:=by
  unfold World.cell? at h
  split at h
  · rename_i hb
    exact (Array.getElem?_eq_some_iff.1 hb).1
  · cases h
theorem gI {α:Type} {c:Ctx} (enc:α→List AV) {l:List (Option IntKind)} (hB:∀ b,¬ c.B b) (hl:0<l.length) (henc:∀ us,oW l us→∃ x:α,VRs c (enc x) us) {v:Value} (h:Hg c.w l v):∃ xs:List α,VR c (.slv l.length (xs.map enc)) v:=by
  rcases h with rfl | ⟨a,len,cap,rfl,h1,h2,h3⟩
  · exact ⟨[],.slv0 _⟩
  · cases Nat.eq_zero_or_pos len with
    | inl h0=>subst h0; exact ⟨[],.slve _ a cap h2⟩
    | inr h0 =>
      have ex:∀ i,∃ p:α×List Value,i<len→p.2.length=l.length∧(∀ j,j<l.length→c.w.cell? (a.add (i * l.length+j))=p.2[j]?)∧VRs c (enc p.1) p.2:=by
        intro i
        by_cases hi:i<len
        · obtain ⟨us,k1,k2,k3⟩:=h3 i hi
          obtain ⟨x,hx⟩:=henc us k3
          exact ⟨(x,us),fun _=>⟨k1,k2,hx⟩⟩
        · obtain ⟨us,k1,k2,k3⟩:=h3 0 h0
          obtain ⟨x,hx⟩:=henc us k3
          exact ⟨(x,us),fun h=>absurd h hi⟩
      obtain ⟨f,hf⟩:=Classical.axiomOfChoice ex
      refine ⟨(BR len).map fun i=>(f i).1,?_⟩
      have hrow:∀ (i:Nat) (r:List AV),(((BR len).map fun i=>(f i).1).map enc)[i]?=some r→i<len∧r=enc (f i).1:=by
        intro i r hr
        by_cases hi:i<len
        · simp [hi] at hr
          exact ⟨hi,hr.symm⟩
        · simp [hi] at hr
      have hlen:(((BR len).map fun i=>(f i).1).map enc).length=len:=by simp
      have := VR.slvs (c:=c) l.length (((BR len).map fun i=>(f i).1).map enc) a cap (fun i j=>((f i).2[j]?).getD bX)
        (by intro e; rw [e] at hlen; simp at hlen; omega) (by rw [hlen]; exact h1) h2 (hB _)
        (by
          obtain ⟨k1,k2,k3⟩:=hf 0 h0
          have:=k2 0 hl
          rw [Zz (by omega)] at this
          have:=zM this
          unfold Addr.add at this
          split at this <;> exact this)
        (fun i r hr=>by
          obtain ⟨hi,rfl⟩:=hrow i r hr
          obtain ⟨k1,k2,k3⟩:=hf i hi
          rw [k3.at.1,k1])
        (fun i r j x hr hx=>by
          obtain ⟨hi,rfl⟩:=hrow i r hr
          obtain ⟨k1,k2,k3⟩:=hf i hi
          obtain ⟨_,v,hv,_⟩:=k3.at.2 j x hx
          have hj:j<l.length:=by
            have:=(Zw.1 hv).1; omega
          rw [k2 j hj,hv]; rfl)
        (fun i r j x hr hx=>by
          obtain ⟨hi,rfl⟩:=hrow i r hr
          obtain ⟨k1,k2,k3⟩:=hf i hi
          exact (k3.at.2 j x hx).1)
        (fun i r j x hr hx=>by
          obtain ⟨hi,rfl⟩:=hrow i r hr
          obtain ⟨k1,k2,k3⟩:=hf i hi
          obtain ⟨_,v,hv,hr⟩:=k3.at.2 j x hx
          simpa [hv] using hr)
      rwa [hlen] at this

def rL (w:World):Ctx:=⟨fun _=>False,fun _=>⟨0,0,0⟩,fun _=>False,AM.get [],w⟩
theorem kJ {w:World} (g:Nat):¬ (rL w).L g:=by intro h; cases h
theorem Bw {w:World} (b:Nat):¬ (rL w).B b:=by
  rintro (h | ⟨g,h,_⟩)
  · exact h
  · exact kJ g h
theorem zR (w:World):Gd (rL w) :=
  ⟨⟨fun g h=>absurd h (kJ g),fun g g' h=>absurd h (kJ g),fun g h=>absurd h (kJ g),fun g h=>absurd h (kJ g),fun g t sz rs h=>(by cases h),fun g es h=>(by cases h)⟩,fun b h=>h.elim⟩
theorem uK {P:Program} {f:FuncId} {args:List AV} {b:Bool} (h:bO P f args (.bool b,[],[])) (W:World) {vs:Array Value} (hvs:ARel (rL W) args vs):Calls P f vs W fun e W'=>e=.returned (.bool b)∧Below W.heap.size W W':=by
  refine (h.2 (rL W) (zR W) rfl (fun n hn=>hn.elim) vs hvs).mono ?_
  rintro en w' ⟨c',z,rfl,rfl,_,hs,_,_,hv⟩
  have hz:z=.bool b:=by cases hv; rfl
  subst hz
  exact ⟨rfl,hs.os,hs.tape,hs.output,hs.size,fun k hk=>hs.keep k hk fun ⟨g,hg,_⟩=>kJ g hg⟩
set_option linter.unusedVariables false
def wQ:List (Option IntKind):=[some .i64,some .i64]
theorem uE {c:Ctx}:∀ us,oW wQ us→∃ x:Slot,VRs c (dQ x) us:=by
  intro us h
  cases us with
  | nil=>exact h.elim
  | cons u us =>
  obtain ⟨⟨x0,rfl,r0⟩,h⟩:=h
  cases us with
  | nil=>exact h.elim
  | cons u us =>
  obtain ⟨⟨x1,rfl,r1⟩,h⟩:=h
  cases us with
  | cons u us=>exact h.elim
  | nil =>
  exact ⟨⟨x0,x1⟩,rfl,.int _ _ r0,rfl,.int _ _ r1,trivial⟩
def pL:List (Option IntKind):=[some .i64]
theorem jY {c:Ctx}:∀ us,oW pL us→∃ x:Int,VRs c (aW x) us:=by
  intro us h
  cases us with
  | nil=>exact h.elim
  | cons u us =>
  obtain ⟨⟨x0,rfl,r0⟩,h⟩:=h
  cases us with
  | cons u us=>exact h.elim
  | nil =>
  exact ⟨x0,rfl,.int _ _ r0,trivial⟩
def pM:List (Option IntKind):=[some .i64,some .i64,some .i64,some .i64,some .i64,some .i64,some .i64,some .i64,none,some .i64,some .i64]
theorem pU {c:Ctx}:∀ us,oW pM us→∃ x:Thread,VRs c (bW x) us:=by
  intro us h
  cases us with
  | nil=>exact h.elim
  | cons u us =>
  obtain ⟨⟨x0,rfl,r0⟩,h⟩:=h
  cases us with
  | nil=>exact h.elim
  | cons u us =>
  obtain ⟨⟨x1,rfl,r1⟩,h⟩:=h
  cases us with
  | nil=>exact h.elim
  | cons u us =>
  obtain ⟨⟨x2,rfl,r2⟩,h⟩:=h
  cases us with
  | nil=>exact h.elim
  | cons u us =>
  obtain ⟨⟨x3,rfl,r3⟩,h⟩:=h
  cases us with
  | nil=>exact h.elim
  | cons u us =>
  obtain ⟨⟨x4,rfl,r4⟩,h⟩:=h
  cases us with
  | nil=>exact h.elim
  | cons u us =>
  obtain ⟨⟨x5,rfl,r5⟩,h⟩:=h
  cases us with
  | nil=>exact h.elim
  | cons u us =>
  obtain ⟨⟨x6,rfl,r6⟩,h⟩:=h
  cases us with
  | nil=>exact h.elim
  | cons u us =>
  obtain ⟨⟨x7,rfl,r7⟩,h⟩:=h
  cases us with
  | nil=>exact h.elim
  | cons u us =>
  obtain ⟨⟨x8,rfl⟩,h⟩:=h
  cases us with
  | nil=>exact h.elim
  | cons u us =>
  obtain ⟨⟨x9,rfl,r9⟩,h⟩:=h
  cases us with
  | nil=>exact h.elim
  | cons u us =>
  obtain ⟨⟨x10,rfl,r10⟩,h⟩:=h
  cases us with
  | cons u us=>exact h.elim
  | nil =>
  exact ⟨⟨x0,x1,x2,x3,x4,x5,x6,x7,x8,x9,x10⟩,rfl,.int _ _ r0,rfl,.int _ _ r1,rfl,.int _ _ r2,rfl,.int _ _ r3,rfl,.int _ _ r4,rfl,.int _ _ r5,rfl,.int _ _ r6,rfl,.int _ _ r7,rfl,.bool _,rfl,.int _ _ r9,rfl,.int _ _ r10,trivial⟩
def sM:List (Option IntKind):=[some .i64,some .i64,some .i64,some .i64,some .i64]
theorem rR {c:Ctx}:∀ us,oW sM us→∃ x:Entry,VRs c (gW x) us:=by
  intro us h
  cases us with
  | nil=>exact h.elim
  | cons u us =>
  obtain ⟨⟨x0,rfl,r0⟩,h⟩:=h
  cases us with
  | nil=>exact h.elim
  | cons u us =>
  obtain ⟨⟨x1,rfl,r1⟩,h⟩:=h
  cases us with
  | nil=>exact h.elim
  | cons u us =>
  obtain ⟨⟨x2,rfl,r2⟩,h⟩:=h
  cases us with
  | nil=>exact h.elim
  | cons u us =>
  obtain ⟨⟨x3,rfl,r3⟩,h⟩:=h
  cases us with
  | nil=>exact h.elim
  | cons u us =>
  obtain ⟨⟨x4,rfl,r4⟩,h⟩:=h
  cases us with
  | cons u us=>exact h.elim
  | nil =>
  exact ⟨⟨x0,x1,x2,x3,x4⟩,rfl,.int _ _ r0,rfl,.int _ _ r1,rfl,.int _ _ r2,rfl,.int _ _ r3,rfl,.int _ _ r4,trivial⟩
def lN:List CellKd:=[.int .i64,.int .i64,.int .i64,.int .i64,.int .i64,.int .i64,.bool,.int .i64,.int .i64,.int .i64,.sl wQ,.sl pL,.sl pL,.int .i64,.sl pL,.int .i64,.sl pL,.int .i64,.sl pM,.sl sM]
theorem rS {c:Ctx} (hB:∀ b,¬ c.B b):∀ cs,Cells c.w lN cs→∃ s:State,VRs c (bQ s) cs:=by
  intro us h
  cases us with
  | nil=>exact h.elim
  | cons u us =>
  obtain ⟨⟨x0,rfl,r0⟩,h⟩:=h
  cases us with
  | nil=>exact h.elim
  | cons u us =>
  obtain ⟨⟨x1,rfl,r1⟩,h⟩:=h
  cases us with
  | nil=>exact h.elim
  | cons u us =>
  obtain ⟨⟨x2,rfl,r2⟩,h⟩:=h
  cases us with
  | nil=>exact h.elim
  | cons u us =>
  obtain ⟨⟨x3,rfl,r3⟩,h⟩:=h
  cases us with
  | nil=>exact h.elim
  | cons u us =>
  obtain ⟨⟨x4,rfl,r4⟩,h⟩:=h
  cases us with
  | nil=>exact h.elim
  | cons u us =>
  obtain ⟨⟨x5,rfl,r5⟩,h⟩:=h
  cases us with
  | nil=>exact h.elim
  | cons u us =>
  obtain ⟨⟨x6,rfl⟩,h⟩:=h
  cases us with
  | nil=>exact h.elim
  | cons u us =>
  obtain ⟨⟨x7,rfl,r7⟩,h⟩:=h
  cases us with
  | nil=>exact h.elim
  | cons u us =>
  obtain ⟨⟨x8,rfl,r8⟩,h⟩:=h
  cases us with
  | nil=>exact h.elim
  | cons u us =>
  obtain ⟨⟨x9,rfl,r9⟩,h⟩:=h
  cases us with
  | nil=>exact h.elim
  | cons u us =>
  obtain ⟨h10,h⟩:=h
  obtain ⟨x10,r10⟩:=gI dQ hB (by decide) uE h10
  cases us with
  | nil=>exact h.elim
  | cons u us =>
  obtain ⟨h11,h⟩:=h
  obtain ⟨x11,r11⟩:=gI aW hB (by decide) jY h11
  cases us with
  | nil=>exact h.elim
  | cons u us =>
  obtain ⟨h12,h⟩:=h
  obtain ⟨x12,r12⟩:=gI aW hB (by decide) jY h12
  cases us with
  | nil=>exact h.elim
  | cons u us =>
  obtain ⟨⟨Ll,rfl,r13⟩,h⟩:=h
  cases us with
  | nil=>exact h.elim
  | cons u us =>
  obtain ⟨h14,h⟩:=h
  obtain ⟨x14,r14⟩:=gI aW hB (by decide) jY h14
  cases us with
  | nil=>exact h.elim
  | cons u us =>
  obtain ⟨⟨Pi,rfl,r15⟩,h⟩:=h
  cases us with
  | nil=>exact h.elim
  | cons u us =>
  obtain ⟨h16,h⟩:=h
  obtain ⟨Pj,r16⟩:=gI aW hB (by decide) jY h16
  cases us with
  | nil=>exact h.elim
  | cons u us =>
  obtain ⟨⟨Ux,rfl,r17⟩,h⟩:=h
  cases us with
  | nil=>exact h.elim
  | cons u us =>
  obtain ⟨h18,h⟩:=h
  obtain ⟨Lm,r18⟩:=gI bW hB (by decide) pU h18
  cases us with
  | nil=>exact h.elim
  | cons u us =>
  obtain ⟨h19,h⟩:=h
  obtain ⟨Po,r19⟩:=gI gW hB (by decide) rR h19
  cases us with
  | cons u us=>exact h.elim
  | nil =>
  exact ⟨⟨⟨x0,x1,x2,x3,x4,x5,x6⟩,⟨x7,x8,x9⟩,x10,x11,x12,⟨Ll,x14⟩,⟨Pi,Pj⟩,Ux,Lm,Po⟩,rfl,.int _ _ r0,rfl,.int _ _ r1,rfl,.int _ _ r2,rfl,.int _ _ r3,rfl,.int _ _ r4,rfl,.int _ _ r5,rfl,.bool _,rfl,.int _ _ r7,rfl,.int _ _ r8,rfl,.int _ _ r9,rfl,r10,rfl,r11,rfl,r12,rfl,.int _ _ r13,rfl,r14,rfl,.int _ _ r15,rfl,r16,rfl,.int _ _ r17,rfl,r18,rfl,r19,trivial⟩
theorem oN {c:Ctx} (hB:∀ b,¬ c.B b) {v:Value} (h:Cells c.w lN v.cells.toList):∃ s:State,VR c (.agg (bQ s)) v:=by
  have hl:=h.len
  cases v with
  | agg vs =>
    obtain ⟨s,hs⟩:=rS hB _ h
    exact ⟨s,hs.agg⟩
  | _=>simp [lN,Value.cells] at hl
end Go.Sak
