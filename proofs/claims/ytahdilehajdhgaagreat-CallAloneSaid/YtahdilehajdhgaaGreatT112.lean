/- Part T112 of the proofs about the program: Ri, Rj, Rk. Conditions: none. -/
import Derived.Test.YtahdilehajdhgaaGreatT14
import Derived.Test.YtahdilehajdhgaaGreatT106
open Array renaming getElem?_eq_some_iff→H0,replicate_succ→R0,replicate_zero→R1
open List renaming append_toArray→R6,cons_append→M9,length_cons→I5,length_nil→L7,nil_append→I9,push_toArray→T2,size_toArray→T3
namespace Go.Sak
open Go Go.RowKit Go.Shelf Go.Proofs
attribute [local go_sem] Oper.semAt_some
set_option linter.unusedVariables false
set_option linter.unusedSimpArgs false
set_option maxRecDepth 100000
set_option maxHeartbeats 4000000

section
variable {n:Nat} {P:Program}
theorem GK {g:Operand} {ps:Array Tmp} {assign body:Code} {Q:Exit→Act→World→Prop} {a:Act} {w:World} (h1:1≤n) {gf:Nat} {cap:Array Value} (hg:a.eval g=.func (.func gf) #[] cap) (eg:∀ args w,(callFunc gf args).run P w=.ok (.enter gf args) w)
    {α:Type} (encs:α→Array Value) (hps:∀ x,(encs x).size=ps.size) (I:List α→World→Prop) (T:World→Prop) (A:List α→α→Act→World→Prop) (xs:List α)
    (hIp:∀ pre W k o o',I pre W→w.heap.size≤k→W.heap[k]?=some o→o.isCells=false→I pre (W.putObj k o'))
    (hAp:∀ pre x a' W k o o',A pre x a' W→w.heap.size≤k→W.heap[k]?=some o→o.isCells=false→A pre x a' (W.putObj k o')) (hIa:∀ pre W o,I pre W→I pre (W.alloc o)) (hId:∀ pre W,I pre W→I pre W.drew) (hIT:∀ pre W,I pre W→T W) (h0:I [] w)
    (hassign:∀ (l:Nat) (pre:List α) (x:α) (W:World),I pre W→w.heap.size≤W.heap.size→∀ K:Act→World→Prop,(∀ a1 W1,KF w.heap.size W W1→A pre x a1 W1→K a1 W1) →
      assign.wpIn (Fence.wide.inRound l) (n - 1 - 1) P (Exit.then K (fun _ _ _=>False)) { tmps:=(ps.zip (encs x)).foldl (fun t (p,v)=>t.setIfInBounds p v) a.tmps,defers:=[] } W)
    (hbody:∀ (l:Nat) (pre:List α) (x:α) (a1:Act) (W1:World),A pre x a1 W1→body.wpIn (Fence.wide.inRound l) (n - 1 - 1) P (fun e _ W2=>KF w.heap.size W1 W2∧(match e with | .normal=>I (pre ++ [x]) W2 | _=>False)) a1 W1)
    (hit:∀ (l:Nat) (W:World) (Rd:List α→World→Prop),w.heap.size≤W.heap.size→(∀ pre W o,Rd pre W→Rd pre (W.alloc o))→(∀ pre W,Rd pre W→Rd pre W.drew)→(∀ pre W,Rd pre W→T W) →
      (∀ pre x W1,Rd pre W1→W.heap.size≤W1.heap.size→YieldAt Fence.wide (n - 1 - 1) P l (encs x) W1 fun e W'=>KF W.heap.size W1 W'∧e=.returned (.bool true)∧Rd (pre ++ [x]) W')→Rd [] W →
      CallsIn Fence.wide (n - 1) P gf (#[.func (.yield l) #[] #[]] ++ cap) W fun e W'=>(∃ v,e=.returned v)∧Rd xs W')
    (hdone:∀ (W:World),I xs W→W.heap[w.heap.size]?=some (.deferred (some []))→Q .normal { a with defers:={ target:=.collected w.heap.size,args:=#[] } :: a.defers } W) :
    (Code.rangeFunc g ps assign body).wpIn Fence.wide n P Q a w:=by
  refine wpIn_rangeFunc ?_
  intro fn _
  obtain ⟨rec,hrec⟩:∃ rec:LoopState→Option Code→Loop,rec=fun st pe=>{ state:=st,pending:=pe,fn,tmps:=a.tmps,params:=ps,assign,body,defers:=w.heap.size }:=⟨_,rfl⟩
  obtain ⟨W1,hW1⟩:∃ W1,(w.alloc (.deferred (some []))).alloc (.loop (rec .ready none))=W1:=⟨_,rfl⟩
  have hs1:W1.heap.size=w.heap.size+2:=by rw [← hW1]; simp
  have hL1:W1.heap[w.heap.size+1]?=some (.loop (rec .ready none)):=by
    have:=World.alloc_heap_new (w.alloc (.deferred (some []))) (.loop (rec .ready none))
    rw [World.size_alloc] at this
    rw [← hW1]; exact this
  have hK1:W1.heap[w.heap.size]?=some (.deferred (some [])):=by
    rw [← hW1]; exact (Below.heap_alloc _ _ _ (by simp)).trans (World.alloc_heap_new w _)
  let Rd:List α→World→Prop:=fun pre W=>(I pre W∧w.heap.size+2≤W.heap.size)∧W.heap[w.heap.size+1]?=some (.loop (rec .ready none))∧W.heap[w.heap.size]?=some (.deferred (some []))
  refine ⟨w.heap.size+1,[{ target:=.collected w.heap.size,args:=#[] }],W1,{ target:=.fn (.func gf) cap,args:=#[.func (.yield (w.heap.size+1)) #[] #[]] },W1,gf,#[.func (.yield (w.heap.size+1)) #[] #[]] ++ cap,W1,?_,?_,fun _ _=>trivial,?_,fun _=>h1,?_⟩
  · rw [← hW1,hrec]; exact run_enterLoop_outer _ _ _ _ _
  · simp only [resolve,hg]
    simp [go_sem]
  · simp [invoke,go_sem,eg]
  · refine (hit (w.heap.size+1) W1 Rd (by omega) (fun pre W o h=>⟨⟨hIa _ _ _ h.1.1,by have:=h.1.2; simp; omega⟩,(Below.heap_alloc W o _ (H0.1 h.2.1).1).trans h.2.1,(Below.heap_alloc W o _ (H0.1 h.2.2).1).trans h.2.2⟩)
      (fun pre W h=>⟨⟨hId _ _ h.1.1,h.1.2⟩,h.2.1,h.2.2⟩) (fun pre W h=>hIT pre W h.1.1) ?_ ⟨⟨by rw [← hW1]; exact hIa _ _ _ (hIa _ _ _ h0),by omega⟩,hL1,hK1⟩).mono ?_
    · rintro pre x W ⟨⟨hi,hsz⟩,hl,hk⟩ hge
      have hlt:w.heap.size+1<W.heap.size:=by omega
      have hy:=run_yield (P:=P) (args:=encs x) hl (by rw [hrec]; exact hps x)
      rw [hrec] at hy
      refine ⟨fn,_,assign,body,hy,roundIn_of_wpIn trivial (hassign _ pre x W hi (by omega) _ fun a1 W2 hkf hA=>?_)⟩
      have hl2:W2.heap[w.heap.size+1]?=some (.loop (rec .ready none)):=(hkf.2 _ (by omega) hlt).trans hl
      have hk2:W2.heap[w.heap.size]?=some (.deferred (some [])):=(hkf.2 _ (by omega) (by omega)).trans hk
      have hlt2:w.heap.size+1<W2.heap.size:=by have:=hkf.1; omega
      refine ⟨_,run_beginRound hl2 (by rw [hrec]),?_⟩
      have hl3:(W2.putObj (w.heap.size+1) (.loop { rec .ready none with state:=.busy })).heap[w.heap.size+1]?=some (.loop { rec .ready none with state:=.busy }):=World.putObj_heap_same hlt2
      have hk3:(W2.putObj (w.heap.size+1) (.loop { rec .ready none with state:=.busy })).heap[w.heap.size]?=some (.deferred (some [])):=(World.putObj_heap_other (by omega)).trans hk2
      have kf3:KF (w.heap.size+2) W2 (W2.putObj (w.heap.size+1) (.loop { rec .ready none with state:=.busy })):=⟨by simp,fun k h1 _=>World.putObj_heap_other (by omega)⟩
      refine wpIn_mono (hbody _ pre x a1 _ (hAp _ _ _ _ _ _ _ hA (by omega) hl2 rfl)) ?_
      rintro e a3 W3 ⟨hkf3,hp⟩
      have hl4:W3.heap[w.heap.size+1]?=some (.loop { rec .ready none with state:=.busy }):=(hkf3.2 _ (by omega) (by simpa using hlt2)).trans hl3
      have hk4:W3.heap[w.heap.size]?=some (.deferred (some [])):=(hkf3.2 _ (by omega) (by simp; omega)).trans hk3
      have hlt4:w.heap.size+1<W3.heap.size:=(H0.1 hl4).1
      have fin:(Instr.endRound (w.heap.size+1) none).run P W3=.ok (.bool true) (W3.putObj (w.heap.size+1) (.loop (rec .ready none))) ∧
          (W3.putObj (w.heap.size+1) (.loop (rec .ready none))).heap[w.heap.size+1]?=some (.loop (rec .ready none)) ∧
          (W3.putObj (w.heap.size+1) (.loop (rec .ready none))).heap[w.heap.size]?=some (.deferred (some []))∧KF W1.heap.size W (W3.putObj (w.heap.size+1) (.loop (rec .ready none))):=by
        have:=run_endRound (P:=P) none hl4
        refine ⟨by rw [hrec] at this ⊢; exact this,World.putObj_heap_same hlt4,(World.putObj_heap_other (by omega)).trans hk4,?_⟩
        refine ⟨by have h1:=hkf.1; have h2:=hkf3.1; simp at h2 ⊢; omega,fun k h1 h2=>?_⟩
        rw [hs1] at h1
        refine (World.putObj_heap_other (by omega)).trans ((hkf3.2 k (by omega) (by have:=hkf.1; simp; omega)).trans ((World.putObj_heap_other (by omega)).trans (hkf.2 k (by omega) h2)))
      have hfull:w.heap.size+2≤(W3.putObj (w.heap.size+1) (.loop (rec .ready none))).heap.size:=by simp; omega
      cases e with
      | normal =>
        obtain ⟨r1,r2,r3,r4⟩:=fin
        exact ⟨_,_,r1,r4,rfl,⟨hIp _ _ _ _ _ hp (by omega) hl4 rfl,hfull⟩,r2,r3⟩
      | _=>exact hp.elim
    · rintro e W2 ⟨⟨v,rfl⟩,⟨hi,_⟩,hl,hk⟩
      exact ⟨none,_,by have:=run_endLoop (P:=P) hl (by rw [hrec]; simp); rw [hrec] at this; exact this,hdone _ (hIp _ _ _ _ _ hi (by omega) hl rfl) ((World.putObj_heap_other (by omega)).trans hk)⟩
end
attribute [local go_sem] Oper.semAt_some
set_option linter.unusedVariables false
set_option linter.unusedSimpArgs false
set_option maxRecDepth 100000
set_option maxHeartbeats 4000000
def Ox (t:Thread):Array Value:=#[.int .i64 t.st,.int .i64 t.kind,.int .i64 t.val,.int .i64 t.untl,.int .i64 t.pc,.int .i64 t.reg,.int .i64 t.seen,.int .i64 t.tries,.bool t.late,.int .i64 t.res,.int .i64 t.got]
def TW (sb:Nat) (sa:Option Addr) (cap:Nat) (ts:List Thread) (W:World):Prop:=W.cell? ⟨sb,18,none⟩=some (.slice sa ts.length cap)∧∀ i t,ts[i]?=some t→∃ ad,sa=some ad∧∀ j v,(Ox t)[j]?=some v→W.cell? (ad.add (i * 11+j))=some v
def lJ (t:Thread):Bool:=decide (t.st≠0) && iE t.kind && !t.late
def iB (ts:List Thread) (k:Nat):List (Nat×Thread):=((ts.take k).zipIdx.filter fun p=>lJ p.1).map fun p=>(p.2,p.1)
theorem It {ts:List Thread} {k:Nat} {t:Thread} (h:ts[k]?=some t):iB ts (k+1)=iB ts k ++ (if lJ t=true then [(k,t)] else []):=by
  unfold iB
  have hk:k<ts.length:=(List.getElem?_eq_some_iff.1 h).1
  rw [List.take_add_one,h,Option.toList_some,List.zipIdx_append,List.filter_append,List.map_append]
  simp only [List.length_take,List.zipIdx_cons,List.zipIdx_nil,List.filter_cons,List.filter_nil,Nat.zero_add]
  rw [show min k ts.length=k from by omega]
  split <;> rfl
theorem lC {W:World} {ad:Addr} {n j:Nat} {v:Value} (h:W.cell? (ad.add (n+j))=some v):W.cell? ⟨(ad.add n).block,(ad.add n).off+j,none⟩=some v:=by
  have h1:(ad.add (n+j)).block=(ad.add n).block:=by rw [fD,fD]
  have h2:(ad.add (n+j)).off=(ad.add n).off+j:=by
    unfold Addr.add
    by_cases a1:n=0 <;> by_cases a2:j=0 <;> simp [a1,a2,Nat.add_assoc]
  unfold World.cell? at h ⊢
  rw [h1,h2] at h
  revert h
  cases W.heap[(ad.add n).block]? with
  | none=>intro h; cases h
  | some o =>
    cases o <;> intro h <;> first | (simp only [] at h ⊢; split at h <;> first | cases h | simpa using h) | cases h
attribute [local go_sem] Oper.semAt_some
set_option linter.unusedVariables false
set_option linter.unusedSimpArgs false
set_option maxRecDepth 100000
set_option maxHeartbeats 4000000

def WM (a:Act):Nat:=match a.tmps.getD 8 dB with
  | .int _ i=>i.toNat
  | _=>0
def ZU (l sb:Nat) (sa:Option Addr) (cap:Nat) (ts:List Thread) (h0:Nat) (Rd:List (Nat×Thread)→World→Prop) (a:Act) (W:World):Prop :=
  ∃ (k:Nat) (t2 t3 t4 t5 t9 t10 t11 t12 t13 t14 t15 t16 t17 t18 t19 t20 t21 t22 t23 t24 t25 t26 t27 t28 t29 t30 t31 t32 t33:Value),a={ tmps:=#[.func (.yield l) #[] #[],.pointer (some ⟨sb,0,none⟩),t2,t3,t4,t5,.slice sa ts.length cap,.int .i64 ts.length,.int .i64 k,t9,t10,t11,t12,t13,t14,t15,t16,t17,t18,t19,t20,t21,t22,t23,t24,t25,t26,t27,t28,t29,t30,t31,t32,t33],defers:=[] }∧k≤ts.length∧Rd (iB ts k) W∧h0≤W.heap.size
theorem Zn (n:Nat) (k:Int) (w:World):CallsIn Fence.wide n Tryz.prog 104 #[.int .i64 k] w (fun en w'=>en=.returned (.bool (iE k))∧w'=w):=by
  refine callsIn_of_wp Tryz.func104 rfl trivial ?_ rfl
  simp only [Tryz.ntmps104,T3,I5,L7,Nat.reduceAdd,Nat.reduceSub,R0,R1,T2,R6,I9,M9]
  by_cases h3:k=3
  · subst h3
    gi_wp2_with fail
    all_goals (refine bodyPost_ret (results_tmp rfl _ _ _) rfl ?_; exact ⟨rfl,rfl⟩)
  · by_cases h6:k=6
    · subst h6
      gi_wp2_with fail
      all_goals (refine bodyPost_ret (results_tmp rfl _ _ _) rfl ?_; exact ⟨rfl,rfl⟩)
    · have e:(k == 3)=false:=by simp [h3]
      have e':(k == 6)=false:=by simp [h6]
      have e2:iE k=false:=by simp [iE,h3,h6]
      rw [e2]
      gi_wp2_with fail
      all_goals (refine bodyPost_ret (results_tmp rfl _ _ _) rfl ?_; simp [e,e'])
theorem Te (n l:Nat) (sb:Nat) (sa:Option Addr) (cap:Nat) (ts:List Thread) (W:World) (Rd:List (Nat×Thread)→World→Prop) (hal:∀ pre W o,Rd pre W→Rd pre (W.alloc o)) (hdr:∀ pre W,Rd pre W→Rd pre W.drew) (hT:∀ pre W,Rd pre W→TW sb sa cap ts W)
    (hir:∀ t,t∈ts→sF .i64 t.untl) (hY:∀ pre x W1,sF .i64 x.2.untl→sF .i64 (x.1:Int)→Rd pre W1→W.heap.size≤W1.heap.size→YieldAt Fence.wide n Tryz.prog l #[.int .i64 (x.1:Int),.agg (Ox x.2)] W1 fun e W'=>KF W.heap.size W1 W'∧e=.returned (.bool true)∧Rd (pre ++ [x]) W') (h0:Rd [] W) (hl:ts.length≤100000) :
    CallsIn Fence.wide (n+1) Tryz.prog 103 #[.func (.yield l) #[] #[],.pointer (some ⟨sb,0,none⟩)] W fun e W'=>(∃ v,e=.returned v)∧Rd (iB ts ts.length) W':=by
  refine callsIn_of_wp Tryz.func103 rfl trivial ?_ rfl
  simp only [Tryz.ntmps103,T3,I5,L7,Nat.reduceAdd,Nat.reduceSub,R0,R1,T2,R6,I9,M9]
  have k18:=(hT _ _ h0).1
  gi_wp2_with (with_reducible refine wpIn_loop (ZU l sb sa cap ts W.heap.size Rd) (fun a _=>ts.length - WM a) ?_ ?_)
  · exact ⟨0,_,_,_,_,_,_,_,_,_,_,_,_,_,_,_,_,_,_,_,_,_,_,_,_,_,_,_,_,_,rfl,Nat.zero_le _,h0,Nat.le_refl _⟩
  clear k18 h0
  rintro a W1 ⟨k,t2,t3,t4,t5,t9,t10,t11,t12,t13,t14,t15,t16,t17,t18,t19,t20,t21,t22,t23,t24,t25,t26,t27,t28,t29,t30,t31,t32,t33,rfl,hk,hR,hs⟩
  obtain ⟨k18,hts⟩:=hT _ _ hR
  clear k18
  rcases Nat.lt_or_eq_of_le hk with hlt | rfl
  · obtain ⟨t,ht⟩:∃ t,ts[k]?=some t:=⟨ts[k],List.getElem?_eq_getElem hlt⟩
    obtain ⟨ad,rfl,hc⟩:=hts k t ht
    have e0a:W1.cell? (ad.add (k * 11))=some (.int .i64 t.st):=hc 0 _ rfl
    have e0:W1.cell? ⟨(ad.add (k * 11)).block,(ad.add (k * 11)).off+0,none⟩=some (.int .i64 t.st):=lC (hc 0 _ rfl)
    have e1:W1.cell? ⟨(ad.add (k * 11)).block,(ad.add (k * 11)).off+1,none⟩=some (.int .i64 t.kind):=lC (hc 1 _ rfl)
    have e2:W1.cell? ⟨(ad.add (k * 11)).block,(ad.add (k * 11)).off+2,none⟩=some (.int .i64 t.val):=lC (hc 2 _ rfl)
    have e3:W1.cell? ⟨(ad.add (k * 11)).block,(ad.add (k * 11)).off+3,none⟩=some (.int .i64 t.untl):=lC (hc 3 _ rfl)
    have e4:W1.cell? ⟨(ad.add (k * 11)).block,(ad.add (k * 11)).off+4,none⟩=some (.int .i64 t.pc):=lC (hc 4 _ rfl)
    have e5:W1.cell? ⟨(ad.add (k * 11)).block,(ad.add (k * 11)).off+5,none⟩=some (.int .i64 t.reg):=lC (hc 5 _ rfl)
    have e6:W1.cell? ⟨(ad.add (k * 11)).block,(ad.add (k * 11)).off+6,none⟩=some (.int .i64 t.seen):=lC (hc 6 _ rfl)
    have e7:W1.cell? ⟨(ad.add (k * 11)).block,(ad.add (k * 11)).off+7,none⟩=some (.int .i64 t.tries):=lC (hc 7 _ rfl)
    have e8:W1.cell? ⟨(ad.add (k * 11)).block,(ad.add (k * 11)).off+8,none⟩=some (.bool t.late):=lC (hc 8 _ rfl)
    have e9:W1.cell? ⟨(ad.add (k * 11)).block,(ad.add (k * 11)).off+9,none⟩=some (.int .i64 t.res):=lC (hc 9 _ rfl)
    have e10:W1.cell? ⟨(ad.add (k * 11)).block,(ad.add (k * 11)).off+10,none⟩=some (.int .i64 t.got):=lC (hc 10 _ rfl)
    have hd:((k:Int)<(ts.length:Int))=True:=by simp; omega
    clear hc hts
    have hS:=It ht
    have hRa:=hal _ _ (.cells (Ox t) 42) hR
    unfold Ox at hRa
    have hwk:IntKind.wrap .i64 ((k:Int)+1)=((k+1:Nat):Int):=by rw [bL (by omega) (by omega)]; omega
    by_cases hst:t.st=0
    · have hn:lJ t=false:=by simp [lJ,hst]
      rw [hn] at hS
      rw [hst] at e0 e0a hRa
      gi_wp2_with fail
      refine ⟨trivial,?_⟩
      gi_wp2_with fail
      refine ⟨fun f h=>(by cases h),?_⟩
      gi_wp2_with fail
      refine ⟨⟨k+1,_,_,_,_,_,_,_,_,_,_,_,_,_,_,_,_,_,_,_,_,_,_,_,_,_,_,_,_,_,rfl,hlt,by rw [hS]; simpa using hRa,by simp; omega⟩,?_⟩
      show ts.length - ((k:Int)+1).toNat<ts.length - (k:Int).toNat
      omega
    · gi_wp2_with fail
      refine ⟨trivial,(Zn n t.kind _).mono ?_⟩
      rintro en W2 ⟨rfl,rfl⟩
      cases htm:iE t.kind with
      | false =>
        gi_wp2_with fail
        refine ⟨fun f h=>(by cases h),?_⟩
        have hn:lJ t=false:=by simp [lJ,htm]
        rw [hn] at hS
        gi_wp2_with fail
        refine ⟨⟨k+1,_,_,_,_,_,_,_,_,_,_,_,_,_,_,_,_,_,_,_,_,_,_,_,_,_,_,_,_,_,rfl,hlt,by rw [hS]; simpa using hRa,by simp; omega⟩,?_⟩
        show ts.length - ((k:Int)+1).toNat<ts.length - (k:Int).toNat
        omega
      | true =>
        cases hlt2:t.late with
        | true =>
          rw [hlt2] at hRa e8
          have hn:lJ t=false:=by simp [lJ,hlt2]
          rw [hn] at hS
          gi_wp2_with fail
          refine ⟨fun f h=>(by cases h),?_⟩
          gi_wp2_with fail
          refine ⟨⟨k+1,_,_,_,_,_,_,_,_,_,_,_,_,_,_,_,_,_,_,_,_,_,_,_,_,_,_,_,_,_,rfl,hlt,by rw [hS]; simpa using hRa,by simp; omega⟩,?_⟩
          show ts.length - ((k:Int)+1).toNat<ts.length - (k:Int).toNat
          omega
        | false =>
          rw [hlt2] at hRa e8
          have hn:lJ t=true:=by simp [lJ,hlt2,htm,hst]
          rw [hn] at hS
          have hsz1:W.heap.size≤W1.heap.size+1:=by omega
          obtain ⟨f1,t1,a1,b1,hy1,hR1⟩:=hY (iB ts k) (k,t) _ (hir t (List.mem_of_getElem? ht)) (by simp only [sF,IntKind.min,IntKind.max,IntKind.signed,IntKind.bits]; simp; omega) hRa (by simp; omega)
          simp only [Ox,hlt2] at hy1
          gi_wp2_with fail
          refine hR1.mono ?_
          rintro e W2 ⟨hkf,rfl,hJ⟩
          have hkf1:=hkf.1
          clear hR1 hy1 hkf
          gi_wp2_with fail
          refine ⟨⟨k+1,_,_,_,_,_,_,_,_,_,_,_,_,_,_,_,_,_,_,_,_,_,_,_,_,_,_,_,_,_,rfl,hlt,by rw [hS]; simpa using hJ,by simp at hkf1; omega⟩,?_⟩
          show ts.length - ((k:Int)+1).toNat<ts.length - (k:Int).toNat
          omega
  · gi_wp2_with fail
    go_end0
    exact ⟨⟨_,rfl⟩,hR⟩
end Go.Sak
