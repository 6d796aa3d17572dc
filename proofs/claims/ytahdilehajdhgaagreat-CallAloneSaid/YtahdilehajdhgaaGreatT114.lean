/- Part T114 of the proofs about the program: Xf, Rq, Rp. Conditions: none. -/
import Derived.Test.YtahdilehajdhgaaGreatT113
import Derived.Test.YtahdilehajdhgaaGreatT111
open List renaming mem_cons_of_mem→H8,mem_cons_self→J7,mem_filter→P1,mem_map→G5
open Option.some renaming inj→E5
namespace Go.Sak
open Go Go.RowKit
set_option linter.unusedVariables false
def nD (t:Thread):Thread:=⟨t.st,t.kind,t.val,t.untl,t.pc,t.reg,t.seen,t.tries,true,t.res,t.got⟩
def gC (s:State) (id:Int):State:=if (me s id).st≠2 then dD s id (nD (me s id)) else dD (cH (cQ s (gJ s.full id).1) (gJ s.empty id).1) id (oR (nD (me s id)))
def gB (s:State) (l:List Int):State:=l.foldl gC s
def kI (s:State):List Due:=if bZ s=true then pJ (iB s.threads s.threads.length) else []
def rF (s:State) (n:Int):State:=⟨s.cfg,s.word,s.slots,s.sends,s.recvs,s.full,s.empty,n,s.threads,s.log⟩
def fO (s:State) (n:Int):List Int:=(kE (kI s) (s.now+n)).1
def jO (s:State) (n:Int):State×List Int×Int :=
  if bZ s=false then (s,[],20) else if n<0∨n > 1099511627776 - s.now then (s,[],50) else (gB (rF s (s.now+n)) (fO s n),fO s n,0)
theorem GX {s:State} {l:List Int} {i:Nat} (h:i<l.length):gB s (l.take (i+1))=gC (gB s (l.take i)) (l.getD i default):=by
  unfold gB
  rw [List.take_succ_eq_append_getElem h,List.foldl_append]
  simp [List.getD_eq_getElem?_getD,h]
theorem Az {e:Event} {id:Int}:(gJ e id).1.ln.length≤e.ln.length:=by
  unfold gJ
  split
  · exact Nat.le_refl _
  · show (iX e.ln id).1.length≤_
    unfold iX
    split
    · exact Nat.le_refl _
    · exact List.length_eraseIdx_le ..
theorem Jc (s:State) (id:Int):(gC s id).threads.length=s.threads.length:=by
  unfold gC; split <;> simp [dD,cQ,cH]
theorem FO {s:State} {id:Int} {k:Nat} (h:Bd s k):Bd (gC s id) k:=by
  have q1:=@Az s.full id
  have q2:=@Az s.empty id
  unfold gC Bd at *
  split <;> simp only [dD,cQ,cH,List.length_set] <;> omega
theorem Bn:∀ (l:List Int) (s:State),(gB s l).threads.length=s.threads.length
  | [],s=>rfl
  | x :: l,s=>(Bn l (gC s x)).trans (Jc s x)
theorem Gn {k:Nat}:∀ (l:List Int) {s:State},Bd s k→Bd (gB s l) k
  | [],s,h=>h
  | x :: l,s,h=>Gn l (FO h)
theorem Wm {l:List Due} {x:Nat×Thread} {d:Due} (h:d∈rS l x):d∈l∨d=⟨x.2.untl,(x.1:Int)⟩:=by
  have hp:∀ {m:List Due} {y:Due},d∈oZ m y→d∈m∨d=y:=by
    intro m y hh
    unfold oZ at hh
    split at hh
    · exact List.mem_or_eq_of_mem_set hh
    · simpa using hh
  have hb:∀ (q m:List Due),d∈q.foldl oZ m→d∈m∨d∈q:=by
    intro q
    induction q with
    | nil=>intro m hh; exact .inl hh
    | cons y q ih =>
      intro m hh
      rcases ih _ hh with h1 | h1
      · rcases hp h1 with h2 | h2
        · exact .inl h2
        · exact .inr (h2 ▸ J7 ..)
      · exact .inr (H8 _ h1)
  unfold rS pA at h
  split at h
  · exact .inl h
  · split at h
    · exact .inl h
    · split at h
      · exact .inl h
      · split at h
        · exact .inl h
        · rcases hp ((nU _).mem_iff.1 h) with h1 | h1
          · rcases hb l [] h1 with h2 | h2
            · cases h2
            · exact .inl h2
          · exact .inr h1
theorem Ij {d:Due}:∀ (pre:List (Nat×Thread)) (l:List Due),d∈pre.foldl rS l→d∈l∨∃ x,x∈pre∧d=⟨x.2.untl,(x.1:Int)⟩
  | [],l,h=>.inl h
  | x :: pre,l,h=>by
    rcases Ij pre _ h with h1 | ⟨y,hy,e⟩
    · rcases Wm h1 with h2 | h2
      · exact .inl h2
      · exact .inr ⟨x,J7 ..,h2⟩
    · exact .inr ⟨y,H8 _ hy,e⟩
theorem EO {s:State} {d:Due} (h:d∈kI s):0≤d.id∧d.id.toNat<s.threads.length:=by
  unfold kI at h
  split at h
  · rcases Ij _ _ h with h1 | ⟨x,hx,rfl⟩
    · cases h1
    · obtain ⟨p,hp,rfl⟩:=G5.1 hx
      have h1:=(P1.1 hp).1
      rw [List.take_length] at h1
      obtain ⟨t,i⟩:=p
      obtain ⟨h2,h3,h4⟩:=List.mem_zipIdx h1
      simp only [Nat.zero_add] at h3
      constructor <;> simp <;> omega
  · cases h
theorem Ah (s:State):dP (kI s)=true:=by
  unfold kI; split
  · exact Ih _
  · rfl
theorem Nr (s:State):(kI s).length≤16:=Ii (Ah s)
theorem FJ {s:State} {n id:Int} (h:id∈fO s n):0≤id∧id.toNat<s.threads.length:=by
  unfold fO kE at h
  split at h
  · cases h
  · obtain ⟨d,hd,rfl⟩:=G5.1 h
    exact EO (P1.1 hd).1
theorem FI (s:State) (n:Int):(fO s n).length≤16:=by
  unfold fO kE
  split
  · simp
  · exact Nat.le_trans (zI _ _) (Nr s)
theorem GU {s:State} (h:bZ s=true):s.threads≠[]:=by
  intro e
  simp only [bZ,Bool.and_eq_true,decide_eq_true_eq] at h
  have h1:=h.1.2
  have h2:=h.1.1.1.1.1.1.1.1.1.1.1.1.1
  rw [e] at h1
  have:dT s.cfg=true:=by
    cases hc:dT s.cfg with
    | true=>rfl
    | false=>unfold fL at h2; rw [hc] at h2; simp at h2
  simp only [dT,cD,Bool.and_eq_true,decide_eq_true_eq] at this
  simp at h1; omega
theorem Yp {s:State} (h:bZ s=true):0≤s.now∧s.now≤1099511627776:=by
  simp only [bZ,Bool.and_eq_true,decide_eq_true_eq] at h
  exact ⟨h.1.1.1.2,h.1.1.2⟩
end Go.Sak
namespace Go.Sak
open Go Go.RowKit Go.Shelf Go.Proofs
attribute [local go_sem] Oper.semAt_some
set_option linter.unusedVariables false
set_option linter.unusedSimpArgs false
set_option maxRecDepth 100000
set_option maxHeartbeats 4000000






theorem oD {c:Ctx} {k:IntKind} {n:Int} {v:Value} (h:VR c (.int k n) v):v=.int k n∧sF k n:=by cases h with | int _ _ h=>exact ⟨rfl,h⟩
theorem HD {c:Ctx} {b:Bool} {v:Value} (h:VR c (.bool b) v):v=.bool b:=by cases h; rfl
theorem Mf {c:Ctx} {ts:List Thread} {v:Value} (h:VR c (.slv 11 (ts.map bH)) v):∃ sa cap,v=.slice sa ts.length cap∧(∀ (i:Nat) (t:Thread),ts[i]?=some t→∃ ad,sa=some ad∧¬ c.B ad.block∧∀ (j:Nat) (x:Value),(Ox t)[j]?=some x→c.w.cell? (ad.add (i * 11+j))=some x)∧∀ t,t∈ts→sF .i64 t.untl:=by
  generalize hrows:ts.map bH=rows at h
  cases h with
  | slv0 =>
    have:ts=[]:=List.map_eq_nil_iff.1 hrows
    subst this
    exact ⟨_,_,rfl,fun i t hi=>by simp at hi,fun t ht=>by cases ht⟩
  | slve _ a cap hc =>
    have:ts=[]:=List.map_eq_nil_iff.1 hrows
    subst this
    exact ⟨_,_,rfl,fun i t hi=>by simp at hi,fun t ht=>by cases ht⟩
  | slvs _ _ a cap us h0 h1 h2 h3 h4 h5 h7 h8 h9 =>
    subst hrows
    have hrow:∀ (i:Nat) (t:Thread),ts[i]?=some t→(ts.map bH)[i]?=some (bH t):=fun i t hi=>by rw [List.getElem?_map,hi]; rfl
    refine ⟨some a,cap,by rw [List.length_map],fun i t hi=>⟨a,rfl,h3,fun j x hj=>?_⟩,fun t ht=>?_⟩
    · have hr:=hrow i t hi
      match j with
      | 0 =>
        have hx:x=.int .i64 t.st:=(E5 hj).symm
        subst hx
        have k1:=h7 i (bH t) 0 (.int .i64 t.st) hr rfl
        have k2:=h9 i (bH t) 0 (.int .i64 t.st) hr rfl
        rw [k1,(oD k2).1]
      | 1 =>
        have hx:x=.int .i64 t.kind:=(E5 hj).symm
        subst hx
        have k1:=h7 i (bH t) 1 (.int .i64 t.kind) hr rfl
        have k2:=h9 i (bH t) 1 (.int .i64 t.kind) hr rfl
        rw [k1,(oD k2).1]
      | 2 =>
        have hx:x=.int .i64 t.val:=(E5 hj).symm
        subst hx
        have k1:=h7 i (bH t) 2 (.int .i64 t.val) hr rfl
        have k2:=h9 i (bH t) 2 (.int .i64 t.val) hr rfl
        rw [k1,(oD k2).1]
      | 3 =>
        have hx:x=.int .i64 t.untl:=(E5 hj).symm
        subst hx
        have k1:=h7 i (bH t) 3 (.int .i64 t.untl) hr rfl
        have k2:=h9 i (bH t) 3 (.int .i64 t.untl) hr rfl
        rw [k1,(oD k2).1]
      | 4 =>
        have hx:x=.int .i64 t.pc:=(E5 hj).symm
        subst hx
        have k1:=h7 i (bH t) 4 (.int .i64 t.pc) hr rfl
        have k2:=h9 i (bH t) 4 (.int .i64 t.pc) hr rfl
        rw [k1,(oD k2).1]
      | 5 =>
        have hx:x=.int .i64 t.reg:=(E5 hj).symm
        subst hx
        have k1:=h7 i (bH t) 5 (.int .i64 t.reg) hr rfl
        have k2:=h9 i (bH t) 5 (.int .i64 t.reg) hr rfl
        rw [k1,(oD k2).1]
      | 6 =>
        have hx:x=.int .i64 t.seen:=(E5 hj).symm
        subst hx
        have k1:=h7 i (bH t) 6 (.int .i64 t.seen) hr rfl
        have k2:=h9 i (bH t) 6 (.int .i64 t.seen) hr rfl
        rw [k1,(oD k2).1]
      | 7 =>
        have hx:x=.int .i64 t.tries:=(E5 hj).symm
        subst hx
        have k1:=h7 i (bH t) 7 (.int .i64 t.tries) hr rfl
        have k2:=h9 i (bH t) 7 (.int .i64 t.tries) hr rfl
        rw [k1,(oD k2).1]
      | 8 =>
        have hx:x=.bool t.late:=(E5 hj).symm
        subst hx
        have k1:=h7 i (bH t) 8 (.bool t.late) hr rfl
        have k2:=h9 i (bH t) 8 (.bool t.late) hr rfl
        rw [k1,HD k2]
      | 9 =>
        have hx:x=.int .i64 t.res:=(E5 hj).symm
        subst hx
        have k1:=h7 i (bH t) 9 (.int .i64 t.res) hr rfl
        have k2:=h9 i (bH t) 9 (.int .i64 t.res) hr rfl
        rw [k1,(oD k2).1]
      | 10 =>
        have hx:x=.int .i64 t.got:=(E5 hj).symm
        subst hx
        have k1:=h7 i (bH t) 10 (.int .i64 t.got) hr rfl
        have k2:=h9 i (bH t) 10 (.int .i64 t.got) hr rfl
        rw [k1,(oD k2).1]
      | j+11=>simp [Ox] at hj
    · obtain ⟨i,hi⟩:=List.mem_iff_getElem?.1 ht
      have k2:=h9 i (bH t) 3 (.int .i64 t.untl) (hrow i t hi) rfl
      exact (oD k2).2
theorem Cl {c:Ctx} (hm:c.m=AM.get []):∀ b,¬ c.own b:=by
  rintro b ⟨g,hg,_⟩
  rw [Ctx.L,hm] at hg; cases hg
theorem Keeps.cell {w w':World} (h:Keeps w w') {a:Addr} {v:Value} (hc:w.cell? a=some v):w'.cell? a=some v:=(World.cell?_of_block (h.2.1 _ (kP hc))).trans hc
theorem Gd.keeps {c:Ctx} (h:Gd c) (hm:c.m=AM.get []) {w':World} (k:Keeps c.w w'):Gd { c with w:=w' }:=h.turn k.1 (fun _ _=>k.cell) fun b hb=>(Cl hm b hb).elim
attribute [local go_sem] Oper.semAt_some
set_option linter.unusedVariables false
set_option linter.unusedSimpArgs false
set_option maxRecDepth 100000
set_option maxHeartbeats 4000000





theorem TW.keep {sb:Nat} {sa:Option Addr} {cap:Nat} {ts:List Thread} {W W':World} (h:TW sb sa cap ts W) (hk:∀ a v,W.cell? a=some v→(a.block=sb∨∃ ad,sa=some ad∧a.block=ad.block)→W'.cell? a=some v):TW sb sa cap ts W' :=
  ⟨hk _ _ h.1 (.inl rfl),fun i t hi=>by
    obtain ⟨ad,h1,h2⟩:=h.2 i t hi
    exact ⟨ad,h1,fun j v hj=>hk _ _ (h2 j v hj) (.inr ⟨ad,h1,fD _ _⟩)⟩⟩
theorem Li {W0:World} {ob sb:Nat} (x0 x1 x3 x4 x5 x6 x7 x8 Dr Hh x12 x13 x14 Ki Fi Kj Ke Hi Tj x21:Value) {Q:Exit→Act→World→Prop} (hob:ob<W0.heap.size) {cs:Array Value} (h0:W0.heap[ob]?=some (.cells cs 48)) (hc0:cs[0]?=some (.slice none 0 0)) {sa:Option Addr} {cap:Nat} {ts:List Thread} (hT:TW sb sa cap ts W0)
    (hsb:sb≠ob) (hsa:∀ (i:Nat) (t:Thread),ts[i]?=some t→∀ ad,sa=some ad→ad.block≠ob) (hl:ts.length≤100000) (hir:∀ t,t∈ts→sF .i64 t.untl)
    (hQ:∀ W,DuI W0 ob 48 (iB ts ts.length) W→W.heap[W0.heap.size]?=some (.deferred (some []))→Q .normal { tmps:=#[x0,x1,.pointer (some ⟨ob,0,none⟩),x3,x4,x5,x6,x7,x8,.func (.func 103) #[] #[.pointer (some ⟨sb,0,none⟩)],Dr,Hh,x12,x13,x14,Ki,Fi,Kj,Ke,Hi,Tj,x21],defers:={ target:=.collected W0.heap.size,args:=#[] } :: [] } W) :
    (Code.rangeFunc (.tmp 9) #[10,11] asgD bodyD).wpIn Fence.wide 5 Tryz.prog Q { tmps:=#[x0,x1,.pointer (some ⟨ob,0,none⟩),x3,x4,x5,x6,x7,x8,.func (.func 103) #[] #[.pointer (some ⟨sb,0,none⟩)],Dr,Hh,x12,x13,x14,Ki,Fi,Kj,Ke,Hi,Tj,x21],defers:=[] } W0:=by
  have hok:=Sb hl hir
  obtain ⟨xs,hxs⟩:∃ xs:List { x:Nat×Thread // ND x },oT xs=iB ts ts.length:=⟨(iB ts ts.length).attach.map fun x=>⟨x.1,hok x.1 x.2⟩,by unfold oT; rw [List.map_map]; exact List.attach_map_subtype_val _⟩
  have hTI:∀ (pre:List { x:Nat×Thread // ND x }) W,DuI W0 ob 48 (oT pre) W→TW sb sa cap ts W:=fun pre W h=>by
    refine ⟨?_,fun i t hi=>?_⟩
    · have:=kP hT.1
      exact (World.cell?_of_block (h.2.1 _ this hsb)).trans hT.1
    · obtain ⟨ad,h1,h2⟩:=hT.2 i t hi
      refine ⟨ad,h1,fun j v hj=>?_⟩
      have h3:=h2 j v hj
      have h4:=kP h3
      rw [fD] at h4
      exact (World.cell?_of_block (by rw [fD]; exact h.2.1 _ h4 (hsa i t hi ad h1))).trans h3
  refine GK (n:=5) (by omega) (gf:=103) (cap:=#[.pointer (some ⟨sb,0,none⟩)]) rfl (Lk ⟨_,Tryz.func103,by kernel_rfl,by kernel_rfl⟩) (fun x:{ x:Nat×Thread // ND x }=>#[.int .i64 (x.1.1:Int),.agg (Ox x.1.2)]) (fun _=>rfl)
    (fun pre W=>DuI W0 ob 48 (oT pre) W) (fun W=>TW sb sa cap ts W) (fun pre x a W=>VY W0 ob sb x0 x1 x3 x4 x5 x6 x7 x8 Dr Hh x12 x13 x14 Ki Fi Kj Ke Hi Tj x21 (oT pre) x.1 a W) xs ?_ ?_ ?_ ?_ ?_ ?_ ?_ ?_ ?_ ?_
  · exact fun pre W k o o' h hk hko hc=>h.put hob hk hko hc
  · rintro pre x a' W k o o' ⟨h,nb,rfl,hnb,hnb0⟩ hk hko hc
    refine ⟨h.put hob hk hko hc,nb,rfl,(World.putObj_heap_other (fun e=>?_)).trans hnb,hnb0⟩
    subst e
    rw [hnb] at hko
    obtain rfl:=E5 hko
    cases hc
  · exact fun pre W o h=>h.alloc hob o
  · exact fun pre W h=>h.drew
  · exact hTI
  · refine ⟨Nat.le_refl _,fun b _ _=>rfl,⟨rfl,rfl,rfl⟩,_,cs,h0,hc0,.slv0 2⟩
  · intro l pre x W h _ K hK
    refine Eq.mpr (congrArg (fun tm:Array Value=>asgD.wpIn (Fence.wide.inRound l) (5 - 1 - 1) Tryz.prog (Exit.then K (fun _ _ _=>False)) { tmps:=tm,defers:=[] } W) ?_) (Uc (5 - 1 - 1) l hob (sb:=sb) x0 x1 x3 x4 x5 x6 x7 x8 Dr Hh x12 x13 x14 Ki Fi Kj Ke Hi Tj x21 (oT pre) x.1 W h K hK)
    first | rfl | simp | skip
  · intro l pre x a1 W1 h
    have:=Qs 3 l hob x0 x1 x3 x4 x5 x6 x7 x8 Dr Hh x12 x13 x14 Ki Fi Kj Ke Hi Tj x21 (oT pre) x.1 a1 W1 h (Nat.le_trans (Ii (Ih _)) (by omega)) x.2
    have e:oT (pre ++ [x])=oT pre ++ [x.1]:=by simp [oT]
    simp only [e]
    exact this
  · intro l W Rd hsz hal hdr hTd hY hR0
    have := Te 3 l sb sa cap ts W (fun pre W=>∃ p,oT p=pre∧Rd p W) (fun pre W o ⟨p,h1,h2⟩=>⟨p,h1,hal p W o h2⟩) (fun pre W ⟨p,h1,h2⟩=>⟨p,h1,hdr p W h2⟩) (fun pre W ⟨p,h1,h2⟩=>hTd p W h2) hir
      (fun pre x W1 i1 i2 ⟨p,h1,h2⟩ h3=>by
        obtain ⟨f1,t1,a1,b1,hy,hr⟩:=hY p ⟨x,i1,i2⟩ W1 h2 h3
        exact ⟨f1,t1,a1,b1,hy,hr.mono fun e W' ⟨k1,k2,k3⟩=>⟨k1,k2,p ++ [⟨x,i1,i2⟩],by simp [oT,← h1],k3⟩⟩) ⟨[],rfl,hR0⟩ hl
    refine this.mono ?_
    rintro e W' ⟨h1,p,h2,h3⟩
    rw [← hxs] at h2
    rw [Zu h2] at h3
    exact ⟨h1,h3⟩
  · intro W h hd
    simp only [hxs] at h
    exact hQ W h hd
end Go.Sak
