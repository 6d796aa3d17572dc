/- Part U14 of the proofs about the program: Rg, Rc, Rd, Re. Conditions: none. -/
import Derived.RangeFuncNested
import Derived.RangeFuncBound
import Derived.RangeFuncCalls
import Derived.RangeFuncLeaves
import Derived.Shelf.Abstract
import Derived.Shelf.RegionOpen
import Derived.OwnWalkIn
import Derived.TacticsInMore
import Derived.Test.YtahdilehajdhgaaGreatU03
import Derived.Test.YtahdilehajdhgaaGreatProg
import Derived.LoopNIn
import Derived.LoopIn
import Derived.KernelRfl
import Derived.Shelf.Slices.Delete
open Array renaming ext→HF,getElem?_eq_some_iff→AT,replicate_succ→DT,replicate_zero→DU
open Bool renaming and_eq_true→Zq
open List renaming append_toArray→DZ,cons_append→CF,length_cons→AQ,length_nil→BT,nil_append→BE,push_toArray→EO,size_toArray→EP
open Nat renaming le_refl→AP,lt_of_lt_of_le→AN,reduceAdd→Zs,reduceSub→Zt
open Go.Proofs.Tryz renaming prog→Zi
namespace Go.Sak
open Go Go.RowKit Go.Shelf Go.Proofs
attribute [local go_sem] Oper.semAt_some
set_option linter.unusedVariables false
set_option linter.unusedSimpArgs false
set_option maxRecDepth 100000
set_option maxHeartbeats 4000000

def KF (B:Nat) (W W':World):Prop:=W.heap.size≤W'.heap.size∧∀ k,B≤k→k<W.heap.size→W'.heap[k]?=W.heap[k]?
theorem KF.trans {B:Nat} {X Y Z:World} (h:KF B X Y) (k:KF B Y Z):KF B X Z:=⟨Nat.le_trans h.1 k.1,fun i h1 h2=>(k.2 i h1 (by have:=h.1; omega)).trans (h.2 i h1 h2)⟩

section
variable {n:Nat} {P:Program}
theorem Ao {g:Operand} {ps:Array Tmp} {assign body:Code} {Q:Exit→Act→World→Prop} {a:Act} {w:World} (h1:1≤n) {gf:Nat} {fst:Array Value} (hg:a.eval g=.func (.func gf) fst #[]) (eg:∀ args w,(callFunc gf args).run P w=.ok (.enter gf args) w)
    {α:Type} (encs:α→Array Value) (ok:α→Bool) (fine:Bool) (hps:∀ x,(encs x).size=ps.size) (I Ix:World→Prop) (A:α→Act→World→Prop)
    (hIp:∀ W k o o',I W→w.heap.size≤k→W.heap[k]?=some o→o.isCells=false→I (W.putObj k o')) (hXp:∀ W k o o',Ix W→w.heap.size≤k→W.heap[k]?=some o→o.isCells=false→Ix (W.putObj k o'))
    (hAp:∀ x a' W k o o',A x a' W→w.heap.size≤k→W.heap[k]?=some o→o.isCells=false→A x a' (W.putObj k o')) (hIa:∀ W o,I W→I (W.alloc o)) (hId:∀ W,I W→I W.drew) (h0:I w)
    (hassign:∀ (l:Nat) (x:α) (W:World),I W→w.heap.size≤W.heap.size→∀ K:Act→World→Prop,(∀ a1 W1,KF w.heap.size W W1→A x a1 W1→K a1 W1) →
      assign.wpIn (Fence.wide.inRound l) (n - 1 - 1) P (Exit.then K (fun _ _ _=>False)) { tmps:=(ps.zip (encs x)).foldl (fun t (p,v)=>t.setIfInBounds p v) a.tmps,defers:=[] } W)
    (hbody:∀ (l:Nat) (x:α) (a1:Act) (W1:World),A x a1 W1→body.wpIn (Fence.wide.inRound l) (n - 1 - 1) P (fun e _ W2=>KF w.heap.size W1 W2∧(match e with | .normal=>ok x=true∧I W2 | .ret=>ok x=false∧Ix W2 | _=>False)) a1 W1)
    (hit:∀ (l:Nat) (W:World) (Rd Dn:World→Prop),(∀ W o,Rd W→Rd (W.alloc o))→(∀ W,Rd W→Rd W.drew) →
      (∀ x W1,Rd W1→W.heap.size≤W1.heap.size→YieldAt Fence.wide (n - 1 - 1) P l (encs x) W1 fun e W'=>KF W.heap.size W1 W'∧((ok x=true∧e=.returned (.bool true)∧Rd W')∨(ok x=false∧e=.returned (.bool false)∧Dn W')))→Rd W →
      CallsIn Fence.wide (n - 1) P gf (fst ++ #[.func (.yield l) #[] #[]]) W fun e W'=>(∃ v,e=.returned v)∧(if fine=true then Rd W' else Dn W'))
    (hdone:∀ (W:World),fine=true→I W→W.heap[w.heap.size]?=some (.deferred (some []))→Q .normal { a with defers:={ target:=.collected w.heap.size,args:=#[] } :: a.defers } W)
    (hstop:∀ (W:World),fine=false→Ix W→W.heap[w.heap.size]?=some (.deferred (some []))→Code.ret.wpIn Fence.wide n P Q { a with defers:={ target:=.collected w.heap.size,args:=#[] } :: a.defers } W) :
    (Code.rangeFunc g ps assign body).wpIn Fence.wide n P Q a w:=by
  refine wpIn_rangeFunc ?_
  intro fn _
  obtain ⟨rec,hrec⟩:∃ rec:LoopState→Option Code→Loop,rec=fun st pe=>{ state:=st,pending:=pe,fn,tmps:=a.tmps,params:=ps,assign,body,defers:=w.heap.size }:=⟨_,rfl⟩
  obtain ⟨W1,hW1⟩:∃ W1,(w.alloc (.deferred (some []))).alloc (.loop (rec .ready none))=W1:=⟨_,rfl⟩
  have hs1:W1.heap.size=w.heap.size+2:=by rw [← hW1]; simp
  have hL1:W1.heap[w.heap.size+1]?=some (.loop (rec .ready none)):=by
    have:=World.alloc_heap_new (w.alloc (.deferred (some []))) (.loop (rec .ready none))
    rw [World.size_alloc] at this
    rw [← hW1]; exact this
  have hK1:W1.heap[w.heap.size]?=some (.deferred (some [])):=by
    rw [← hW1]; exact (Below.heap_alloc _ _ _ (by simp)).trans (World.alloc_heap_new w _)
  let Rd:World→Prop:=fun W=>(I W∧w.heap.size+2≤W.heap.size)∧W.heap[w.heap.size+1]?=some (.loop (rec .ready none))∧W.heap[w.heap.size]?=some (.deferred (some []))
  let Dn:World→Prop:=fun W=>Ix W∧W.heap[w.heap.size+1]?=some (.loop (rec .done (some .ret)))∧W.heap[w.heap.size]?=some (.deferred (some []))
  refine ⟨w.heap.size+1,[{ target:=.collected w.heap.size,args:=#[] }],W1,{ target:=.fn (.func gf) #[],args:=fst ++ #[.func (.yield (w.heap.size+1)) #[] #[]] },W1,gf,fst ++ #[.func (.yield (w.heap.size+1)) #[] #[]],W1,?_,?_,fun _ _=>trivial,?_,fun _=>h1,?_⟩
  · rw [← hW1,hrec]; exact run_enterLoop_outer _ _ _ _ _
  · simp only [resolve,hg]
    simp [go_sem]
  · simp [invoke,go_sem,eg]
  · refine (hit (w.heap.size+1) W1 Rd Dn (fun W o h=>⟨⟨hIa _ _ h.1.1,by have:=h.1.2; simp; omega⟩,(Below.heap_alloc W o _ (AT.1 h.2.1).1).trans h.2.1,(Below.heap_alloc W o _ (AT.1 h.2.2).1).trans h.2.2⟩)
      (fun W h=>⟨⟨hId _ h.1.1,h.1.2⟩,h.2.1,h.2.2⟩) ?_ ⟨⟨by rw [← hW1]; exact hIa _ _ (hIa _ _ h0),by omega⟩,hL1,hK1⟩).mono ?_
    · rintro x W ⟨⟨hi,hsz⟩,hl,hk⟩ hge
      have hlt:w.heap.size+1<W.heap.size:=by omega
      have hy:=run_yield (P:=P) (args:=encs x) hl (by rw [hrec]; exact hps x)
      rw [hrec] at hy
      refine ⟨fn,_,assign,body,hy,roundIn_of_wpIn trivial (hassign _ x W hi (by omega) _ fun a1 W2 hkf hA=>?_)⟩
      have hl2:W2.heap[w.heap.size+1]?=some (.loop (rec .ready none)):=(hkf.2 _ (by omega) hlt).trans hl
      have hk2:W2.heap[w.heap.size]?=some (.deferred (some [])):=(hkf.2 _ (by omega) (by omega)).trans hk
      have hlt2:w.heap.size+1<W2.heap.size:=by have:=hkf.1; omega
      refine ⟨_,run_beginRound hl2 (by rw [hrec]),?_⟩
      have hl3:(W2.putObj (w.heap.size+1) (.loop { rec .ready none with state:=.busy })).heap[w.heap.size+1]?=some (.loop { rec .ready none with state:=.busy }):=World.putObj_heap_same hlt2
      have hk3:(W2.putObj (w.heap.size+1) (.loop { rec .ready none with state:=.busy })).heap[w.heap.size]?=some (.deferred (some [])):=(World.putObj_heap_other (by omega)).trans hk2
      have kf3:KF (w.heap.size+2) W2 (W2.putObj (w.heap.size+1) (.loop { rec .ready none with state:=.busy })):=⟨by simp,fun k h1 _=>World.putObj_heap_other (by omega)⟩
      refine wpIn_mono (hbody _ x a1 _ (hAp _ _ _ _ _ _ hA (by omega) hl2 rfl)) ?_
      rintro e a3 W3 ⟨hkf3,hp⟩
      have hl4:W3.heap[w.heap.size+1]?=some (.loop { rec .ready none with state:=.busy }):=(hkf3.2 _ (by omega) (by simpa using hlt2)).trans hl3
      have hk4:W3.heap[w.heap.size]?=some (.deferred (some [])):=(hkf3.2 _ (by omega) (by simp; omega)).trans hk3
      have hlt4:w.heap.size+1<W3.heap.size:=(AT.1 hl4).1
      have fin:∀ jump:Option Code,(Instr.endRound (w.heap.size+1) jump).run P W3=.ok (.bool jump.isNone) (W3.putObj (w.heap.size+1) (.loop (rec (if jump.isNone then .ready else .done) jump))) ∧
          (W3.putObj (w.heap.size+1) (.loop (rec (if jump.isNone then .ready else .done) jump))).heap[w.heap.size+1]?=some (.loop (rec (if jump.isNone then .ready else .done) jump)) ∧
          (W3.putObj (w.heap.size+1) (.loop (rec (if jump.isNone then .ready else .done) jump))).heap[w.heap.size]?=some (.deferred (some []))∧KF W1.heap.size W (W3.putObj (w.heap.size+1) (.loop (rec (if jump.isNone then .ready else .done) jump))):=fun jump=>by
        have:=run_endRound (P:=P) jump hl4
        refine ⟨by rw [hrec] at this ⊢; exact this,World.putObj_heap_same hlt4,(World.putObj_heap_other (by omega)).trans hk4,?_⟩
        refine ⟨by have h1:=hkf.1; have h2:=hkf3.1; simp at h2 ⊢; omega,fun k h1 h2=>?_⟩
        rw [hs1] at h1
        refine (World.putObj_heap_other (by omega)).trans ((hkf3.2 k (by omega) (by have:=hkf.1; simp; omega)).trans ((World.putObj_heap_other (by omega)).trans (hkf.2 k (by omega) h2)))
      have hfull:∀ jump:Option Code,w.heap.size+2≤(W3.putObj (w.heap.size+1) (.loop (rec (if jump.isNone then .ready else .done) jump))).heap.size:=fun jump=>by simp; omega
      cases e with
      | normal =>
        obtain ⟨q1,q2⟩:=hp
        obtain ⟨r1,r2,r3,r4⟩:=fin none
        exact ⟨_,_,r1,r4,.inl ⟨q1,rfl,⟨hIp _ _ _ _ q2 (by omega) hl4 rfl,hfull none⟩,r2,r3⟩⟩
      | ret =>
        obtain ⟨q1,q2⟩:=hp
        obtain ⟨r1,r2,r3,r4⟩:=fin (some .ret)
        exact ⟨_,_,r1,r4,.inr ⟨q1,rfl,hXp _ _ _ _ q2 (by omega) hl4 rfl,r2,r3⟩⟩
      | _=>exact hp.elim
    · rintro e W2 ⟨⟨v,rfl⟩,hp⟩
      cases hf:fine with
      | true =>
        rw [hf,if_pos rfl] at hp
        obtain ⟨⟨hi,_⟩,hl,hk⟩:=hp
        exact ⟨none,_,by have:=run_endLoop (P:=P) hl (by rw [hrec]; simp); rw [hrec] at this; exact this,hdone _ hf (hIp _ _ _ _ hi (by omega) hl rfl) ((World.putObj_heap_other (by omega)).trans hk)⟩
      | false =>
        rw [hf,if_neg (by simp)] at hp
        obtain ⟨hi,hl,hk⟩:=hp
        exact ⟨some .ret,_,by have:=run_endLoop (P:=P) hl (by rw [hrec]; simp); rw [hrec] at this; exact this,hstop _ hf (hXp _ _ _ _ hi (by omega) hl rfl) ((World.putObj_heap_other (by omega)).trans hk)⟩
end
attribute [local go_sem] Oper.semAt_some
set_option linter.unusedVariables false
set_option linter.unusedSimpArgs false
set_option maxRecDepth 100000
set_option maxHeartbeats 40000000

def eF (c:Config):Array Value:=#[.int .i64 c.lg,.int .i64 c.th,.int .i64 c.pol,.int .i64 c.wt,.int .i64 c.spin,.int .i64 c.yld,.bool c.single]

theorem cQ (n:Nat) (c:Config) (w:World):CallsIn Fence.wide n Zi 188 #[.agg (eF c)] w fun e W=>e=.returned (.int .i64 (aM c.wt))∧W=w.alloc (.cells (eF c) 155):=by
  refine callsIn_of_wp Tryz.func188 rfl trivial ?_ rfl
  simp only [Tryz.ntmps188,eF,EP,AQ,BT,Zs,Zt,DT,DU,EO,DZ,BE,CF]
  gi_wp2
  all_goals (refine bodyPost_ret (results_tmp rfl _ _ _) rfl ?_; rename_i h; refine ⟨?_,rfl⟩; simp at h; simp [aM,h])

def Bx (B:Nat) (c:Config) (W:World):Prop:=W.cell? ⟨B,0,none⟩=some (.int .i64 c.lg)∧W.cell? ⟨B,1,none⟩=some (.int .i64 c.th)∧W.cell? ⟨B,2,none⟩=some (.int .i64 c.pol)∧W.cell? ⟨B,3,none⟩=some (.int .i64 c.wt) ∧
  W.cell? ⟨B,4,none⟩=some (.int .i64 c.spin)∧W.cell? ⟨B,5,none⟩=some (.int .i64 c.yld)∧W.cell? ⟨B,6,none⟩=some (.bool c.single)
theorem Bx.keep {B:Nat} {c:Config} {W W':World} (h:Bx B c W) (hk:W'.heap[B]?=W.heap[B]?):Bx B c W':=by
  obtain ⟨h0,h1,h2,h3,h4,h5,h6⟩:=h
  exact ⟨(World.cell?_of_block hk).trans h0,(World.cell?_of_block hk).trans h1,(World.cell?_of_block hk).trans h2,(World.cell?_of_block hk).trans h3,(World.cell?_of_block hk).trans h4,(World.cell?_of_block hk).trans h5,(World.cell?_of_block hk).trans h6⟩

theorem fF {W:World} {a:Addr} {v:Value} (o:Obj) (h:W.cell? a=some v):(W.alloc o).cell? a=some v:=by
  obtain ⟨ob,h1,_⟩:=cells_of_cell h
  exact (World.cell?_of_block (Below.heap_alloc W o a.block (AT.1 h1).1)).trans h
theorem Bx.alloc {B:Nat} {c:Config} {W:World} (o:Obj) (h:Bx B c W):Bx B c (W.alloc o):=by
  obtain ⟨h0,h1,h2,h3,h4,h5,h6⟩:=h
  exact ⟨fF _ h0,fF _ h1,fF _ h2,fF _ h3,fF _ h4,fF _ h5,fF _ h6⟩
section
variable {n:Nat} {P:Program} {ops:Array Oper} {Q:Exit→Act→World→Prop}
def kb (ops:Array Oper) (listed:Array Bool) (a:Act) (i:Nat) (o:Oper) (b:Bool):Bool:=Region.noSelect ops && Region.free .any ops listed i && (Region.ready .any ops listed).contains i && Region.wanted o (yielded ops a.tmps) == b
theorem tk (i:Nat) {oi:Oper} {v:Value} {fuel:Nat} {listed:Array Bool} {a:Act} {w:World} (hi:ops[i]?=some oi) (hb:kb ops listed a i oi true=true)
    (hQ:∀ c a w,Q (.panic c) (a.put oi.dst v) w→Q (.panic c) a w) (hab:∀ w,oi.about P w a.eval=none) (hy:∀ w,(execOp a.eval oi).run P w=.ok (.value v) w)
    (h:wpAnyIn Fence.wide n P .any ops Q fuel (listed.setIfInBounds i true) (a.put oi.dst v) w):wpAnyIn Fence.wide n P .any ops Q (fuel+1) listed a w:=by
  simp only [kb,Zq,beq_iff_eq] at hb
  exact wpAnyIn_take rfl hi hb.1.1.1 hb.1.1.2 hb.1.2 hQ ⟨.inl ⟨hb.2,hy⟩,hab⟩ h
theorem s1 (i:Nat) {o:Oper} {fuel:Nat} {listed:Array Bool} {a:Act} {w:World} (hi:ops[i]?=some o) (hb:kb ops listed a i o false=true)
    (hQ:∀ c a w,Q (.panic c) (a.put o.dst undef) w→Q (.panic c) a w) (hab:∀ w,o.about P w a.eval=none)
    (h:wpAnyIn Fence.wide n P .any ops Q fuel (listed.setIfInBounds i true) (a.put o.dst undef) w):wpAnyIn Fence.wide n P .any ops Q (fuel+1) listed a w:=by
  simp only [kb,Zq,beq_iff_eq] at hb
  exact wpAnyIn_take rfl hi hb.1.1.1 hb.1.1.2 hb.1.2 hQ ⟨.inr ⟨hb.2,rfl⟩,hab⟩ h
theorem s2 (i:Nat) {o0 o1:Oper} {fuel:Nat} {listed:Array Bool} {a:Act} {w:World} (hi:(ops[i]?,ops[i+1]?)=(some o0,some o1)) (hb:(kb ops listed a i o0 false && kb ops (listed.setIfInBounds i true) (a.put o0.dst undef) (i+1) o1 false)=true)
    (hQ:∀ c a w,(Q (.panic c) (a.put o0.dst undef) w→Q (.panic c) a w)∧(Q (.panic c) (a.put o1.dst undef) w→Q (.panic c) a w)) (hab:∀ w,(o0.about P w a.eval,o1.about P w (a.put o0.dst undef).eval)=(none,none))
    (h:wpAnyIn Fence.wide n P .any ops Q fuel ((listed.setIfInBounds i true).setIfInBounds (i+1) true) ((a.put o0.dst undef).put o1.dst undef) w):wpAnyIn Fence.wide n P .any ops Q (fuel+2) listed a w:=by
  simp only [Prod.mk.injEq,Zq] at hi hb hab
  refine s1 i hi.1 hb.1 (fun c a w=>(hQ c a w).1) (fun w=>(hab w).1) ?_
  refine s1 (i+1) hi.2 hb.2 (fun c a w=>(hQ c a w).2) (fun w=>(hab w).2) ?_
  exact h
theorem s3 (i:Nat) {o0 o1 o2:Oper} {fuel:Nat} {listed:Array Bool} {a:Act} {w:World} (hi:(ops[i]?,ops[i+1]?,ops[i+2]?)=(some o0,some o1,some o2)) (hb:(kb ops listed a i o0 false && kb ops (listed.setIfInBounds i true) (a.put o0.dst undef) (i+1) o1 false && kb ops ((listed.setIfInBounds i true).setIfInBounds (i+1) true) ((a.put o0.dst undef).put o1.dst undef) (i+2) o2 false)=true)
    (hQ:∀ c a w,(Q (.panic c) (a.put o0.dst undef) w→Q (.panic c) a w)∧(Q (.panic c) (a.put o1.dst undef) w→Q (.panic c) a w)∧(Q (.panic c) (a.put o2.dst undef) w→Q (.panic c) a w)) (hab:∀ w,(o0.about P w a.eval,o1.about P w (a.put o0.dst undef).eval,o2.about P w ((a.put o0.dst undef).put o1.dst undef).eval)=(none,none,none))
    (h:wpAnyIn Fence.wide n P .any ops Q fuel (((listed.setIfInBounds i true).setIfInBounds (i+1) true).setIfInBounds (i+2) true) (((a.put o0.dst undef).put o1.dst undef).put o2.dst undef) w):wpAnyIn Fence.wide n P .any ops Q (fuel+3) listed a w:=by
  simp only [Prod.mk.injEq,Zq] at hi hb hab
  refine s1 i hi.1 hb.1.1 (fun c a w=>(hQ c a w).1) (fun w=>(hab w).1) ?_
  refine s1 (i+1) hi.2.1 hb.1.2 (fun c a w=>(hQ c a w).2.1) (fun w=>(hab w).2.1) ?_
  refine s1 (i+2) hi.2.2 hb.2 (fun c a w=>(hQ c a w).2.2) (fun w=>(hab w).2.2) ?_
  exact h
theorem s4 (i:Nat) {o0 o1 o2 o3:Oper} {fuel:Nat} {listed:Array Bool} {a:Act} {w:World} (hi:(ops[i]?,ops[i+1]?,ops[i+2]?,ops[i+3]?)=(some o0,some o1,some o2,some o3)) (hb:(kb ops listed a i o0 false && kb ops (listed.setIfInBounds i true) (a.put o0.dst undef) (i+1) o1 false && kb ops ((listed.setIfInBounds i true).setIfInBounds (i+1) true) ((a.put o0.dst undef).put o1.dst undef) (i+2) o2 false && kb ops (((listed.setIfInBounds i true).setIfInBounds (i+1) true).setIfInBounds (i+2) true) (((a.put o0.dst undef).put o1.dst undef).put o2.dst undef) (i+3) o3 false)=true)
    (hQ:∀ c a w,(Q (.panic c) (a.put o0.dst undef) w→Q (.panic c) a w)∧(Q (.panic c) (a.put o1.dst undef) w→Q (.panic c) a w)∧(Q (.panic c) (a.put o2.dst undef) w→Q (.panic c) a w)∧(Q (.panic c) (a.put o3.dst undef) w→Q (.panic c) a w)) (hab:∀ w,(o0.about P w a.eval,o1.about P w (a.put o0.dst undef).eval,o2.about P w ((a.put o0.dst undef).put o1.dst undef).eval,o3.about P w (((a.put o0.dst undef).put o1.dst undef).put o2.dst undef).eval)=(none,none,none,none))
    (h:wpAnyIn Fence.wide n P .any ops Q fuel ((((listed.setIfInBounds i true).setIfInBounds (i+1) true).setIfInBounds (i+2) true).setIfInBounds (i+3) true) ((((a.put o0.dst undef).put o1.dst undef).put o2.dst undef).put o3.dst undef) w):wpAnyIn Fence.wide n P .any ops Q (fuel+4) listed a w:=by
  simp only [Prod.mk.injEq,Zq] at hi hb hab
  refine s1 i hi.1 hb.1.1.1 (fun c a w=>(hQ c a w).1) (fun w=>(hab w).1) ?_
  refine s1 (i+1) hi.2.1 hb.1.1.2 (fun c a w=>(hQ c a w).2.1) (fun w=>(hab w).2.1) ?_
  refine s1 (i+2) hi.2.2.1 hb.1.2 (fun c a w=>(hQ c a w).2.2.1) (fun w=>(hab w).2.2.1) ?_
  refine s1 (i+3) hi.2.2.2 hb.2 (fun c a w=>(hQ c a w).2.2.2) (fun w=>(hab w).2.2.2) ?_
  exact h
theorem s5 (i:Nat) {o0 o1 o2 o3 o4:Oper} {fuel:Nat} {listed:Array Bool} {a:Act} {w:World} (hi:(ops[i]?,ops[i+1]?,ops[i+2]?,ops[i+3]?,ops[i+4]?)=(some o0,some o1,some o2,some o3,some o4)) (hb:(kb ops listed a i o0 false && kb ops (listed.setIfInBounds i true) (a.put o0.dst undef) (i+1) o1 false && kb ops ((listed.setIfInBounds i true).setIfInBounds (i+1) true) ((a.put o0.dst undef).put o1.dst undef) (i+2) o2 false && kb ops (((listed.setIfInBounds i true).setIfInBounds (i+1) true).setIfInBounds (i+2) true) (((a.put o0.dst undef).put o1.dst undef).put o2.dst undef) (i+3) o3 false && kb ops ((((listed.setIfInBounds i true).setIfInBounds (i+1) true).setIfInBounds (i+2) true).setIfInBounds (i+3) true) ((((a.put o0.dst undef).put o1.dst undef).put o2.dst undef).put o3.dst undef) (i+4) o4 false)=true)
    (hQ:∀ c a w,(Q (.panic c) (a.put o0.dst undef) w→Q (.panic c) a w)∧(Q (.panic c) (a.put o1.dst undef) w→Q (.panic c) a w)∧(Q (.panic c) (a.put o2.dst undef) w→Q (.panic c) a w)∧(Q (.panic c) (a.put o3.dst undef) w→Q (.panic c) a w)∧(Q (.panic c) (a.put o4.dst undef) w→Q (.panic c) a w)) (hab:∀ w,(o0.about P w a.eval,o1.about P w (a.put o0.dst undef).eval,o2.about P w ((a.put o0.dst undef).put o1.dst undef).eval,o3.about P w (((a.put o0.dst undef).put o1.dst undef).put o2.dst undef).eval,o4.about P w ((((a.put o0.dst undef).put o1.dst undef).put o2.dst undef).put o3.dst undef).eval)=(none,none,none,none,none))
    (h:wpAnyIn Fence.wide n P .any ops Q fuel (((((listed.setIfInBounds i true).setIfInBounds (i+1) true).setIfInBounds (i+2) true).setIfInBounds (i+3) true).setIfInBounds (i+4) true) (((((a.put o0.dst undef).put o1.dst undef).put o2.dst undef).put o3.dst undef).put o4.dst undef) w):wpAnyIn Fence.wide n P .any ops Q (fuel+5) listed a w:=by
  simp only [Prod.mk.injEq,Zq] at hi hb hab
  refine s1 i hi.1 hb.1.1.1.1 (fun c a w=>(hQ c a w).1) (fun w=>(hab w).1) ?_
  refine s1 (i+1) hi.2.1 hb.1.1.1.2 (fun c a w=>(hQ c a w).2.1) (fun w=>(hab w).2.1) ?_
  refine s1 (i+2) hi.2.2.1 hb.1.1.2 (fun c a w=>(hQ c a w).2.2.1) (fun w=>(hab w).2.2.1) ?_
  refine s1 (i+3) hi.2.2.2.1 hb.1.2 (fun c a w=>(hQ c a w).2.2.2.1) (fun w=>(hab w).2.2.2.1) ?_
  refine s1 (i+4) hi.2.2.2.2 hb.2 (fun c a w=>(hQ c a w).2.2.2.2) (fun w=>(hab w).2.2.2.2) ?_
  exact h
end

theorem tN (n:Nat) (h1:1≤n) (c:Config) (l:Nat) (W:World) (Rd Dn:World→Prop) (hal:∀ W o,Rd W→Rd (W.alloc o)) (hdr:∀ W,Rd W→Rd W.drew)
    (hY:∀ x lo hi W1,Rd W1→Bx W.heap.size c W1→(aS x lo hi=true→YieldAt Fence.wide (n - 1) Zi l #[.int .i64 x,.agg #[.int .i64 lo,.int .i64 hi]] W1 fun e W'=>e=.returned (.bool true)∧Rd W'∧Bx W.heap.size c W') ∧
      (aS x lo hi=false→YieldAt Fence.wide (n - 1) Zi l #[.int .i64 x,.agg #[.int .i64 lo,.int .i64 hi]] W1 fun e W'=>e=.returned (.bool false)∧Dn W'))
    (h0:Rd W):CallsIn Fence.wide n Zi 127 #[.agg (eF c),.func (.yield l) #[] #[]] W fun e W'=>(∃ v,e=.returned v)∧(if bD c=true then Rd W' else Dn W'):=by
  have hmix:Tryz.prog.follows .mixedOrders=true:=by kernel_rfl
  refine callsIn_of_wp Tryz.func127 rfl trivial ?_ rfl
  simp only [Tryz.ntmps127,eF,EP,AQ,BT,Zs,Zt,DT,DU,EO,DZ,BE,CF]
  gi_wp2
  refine wpIn_region_any hmix ?_
  change wpAnyIn _ _ _ _ _ _ _ _ _ (World.drew _)
  have hR:=hdr _ (hal W (.cells (eF c) 155) h0)
  have hB:Bx W.heap.size c (W.alloc (.cells (eF c) 155)).drew:=by
    have hn:(W.alloc (.cells (eF c) 155)).heap[W.heap.size]?=some (.cells (eF c) 155):=World.alloc_heap_new W _
    refine ⟨?_,?_,?_,?_,?_,?_,?_⟩ <;> (unfold World.cell?; rw [show (W.alloc (.cells (eF c) 155)).drew.heap=(W.alloc (.cells (eF c) 155)).heap from rfl,hn]; rfl)
  simp only [eF] at hR hB
  obtain ⟨c0,c1,c2,c3,c4,c5,c6⟩:=id hB
  refine tk (v:=?_) 0 rfl (by kernel_rfl) (fun _ _ _=>id) (fun _=>by kernel_rfl) ?_ ?_
  rotate_left; · intro w; go_simp; try with_reducible rfl
  refine tk (v:=?_) 1 rfl (by kernel_rfl) (fun _ _ _=>id) (fun _=>by kernel_rfl) ?_ ?_
  rotate_left; · intro w; go_simp; try with_reducible rfl
  refine tk (v:=?_) 3 rfl (by kernel_rfl) (fun _ _ _=>id) (fun _=>by kernel_rfl) ?_ ?_
  rotate_left; · intro w; go_simp; try with_reducible rfl
  refine wpAnyIn_ready (rs:=[2]) (by kernel_rfl) (by simp) ?_
  refine AllReadyIn.cons rfl (fun K hK=>?_) .nil
  go_simp; refine hK _ _ ?_; clear hK K
  refine wpAnyIn_ready (rs:=[4]) (by kernel_rfl) (by simp) ?_
  refine AllReadyIn.cons rfl (fun K hK=>?_) .nil
  cases hw0:aS c.lg 1 6
  · obtain ⟨f1,t1,a1,b1,hy1,hR1⟩:=(hY c.lg 1 6 _ hR hB).2 hw0
    go_simp
    refine hR1.mono ?_
    rintro e W2 ⟨rfl,hJ⟩
    refine hK _ _ ?_
    clear hK K hy1 hR1 hR
    refine tk (v:=?_) 5 rfl (by kernel_rfl) (fun _ _ _=>id) (fun _=>by kernel_rfl) ?_ ?_
    rotate_left; · intro w; go_simp; try with_reducible rfl
    refine s5 6 rfl (by kernel_rfl) (fun _ _ _=>⟨id,id,id,id,id⟩) (fun _=>by kernel_rfl) ?_
    refine tk (v:=?_) 11 rfl (by kernel_rfl) (fun _ _ _=>id) (fun _=>by kernel_rfl) ?_ ?_
    rotate_left; · intro w; go_simp; try with_reducible rfl
    refine tk (v:=?_) 12 rfl (by kernel_rfl) (fun _ _ _=>id) (fun _=>by kernel_rfl) ?_ ?_
    rotate_left; · intro w; go_simp; try with_reducible rfl
    refine s5 13 rfl (by kernel_rfl) (fun _ _ _=>⟨id,id,id,id,id⟩) (fun _=>by kernel_rfl) ?_
    refine tk (v:=?_) 18 rfl (by kernel_rfl) (fun _ _ _=>id) (fun _=>by kernel_rfl) ?_ ?_
    rotate_left; · intro w; go_simp; try with_reducible rfl
    refine tk (v:=?_) 19 rfl (by kernel_rfl) (fun _ _ _=>id) (fun _=>by kernel_rfl) ?_ ?_
    rotate_left; · intro w; go_simp; try with_reducible rfl
    refine s5 20 rfl (by kernel_rfl) (fun _ _ _=>⟨id,id,id,id,id⟩) (fun _=>by kernel_rfl) ?_
    refine tk (v:=?_) 25 rfl (by kernel_rfl) (fun _ _ _=>id) (fun _=>by kernel_rfl) ?_ ?_
    rotate_left; · intro w; go_simp; try with_reducible rfl
    refine tk (v:=?_) 26 rfl (by kernel_rfl) (fun _ _ _=>id) (fun _=>by kernel_rfl) ?_ ?_
    rotate_left; · intro w; go_simp; try with_reducible rfl
    refine s4 27 rfl (by kernel_rfl) (fun _ _ _=>⟨id,id,id,id⟩) (fun _=>by kernel_rfl) ?_
    refine wpAnyIn_ready (rs:=[31]) (by kernel_rfl) (by simp) (AllReadyIn.cons rfl (fun K hK=>?_) AllReadyIn.nil)
    go_simp
    first | refine ⟨trivial,hK _ _ ?_⟩ | refine hK _ _ ?_
    clear hK K
    refine s2 32 rfl (by kernel_rfl) (fun _ _ _=>⟨id,id⟩) (fun _=>by kernel_rfl) ?_
    refine tk (v:=?_) 34 rfl (by kernel_rfl) (fun _ _ _=>id) (fun _=>by kernel_rfl) ?_ ?_
    rotate_left; · intro w; go_simp; try with_reducible rfl
    refine tk (v:=?_) 35 rfl (by kernel_rfl) (fun _ _ _=>id) (fun _=>by kernel_rfl) ?_ ?_
    rotate_left; · intro w; go_simp; try with_reducible rfl
    refine s4 36 rfl (by kernel_rfl) (fun _ _ _=>⟨id,id,id,id⟩) (fun _=>by kernel_rfl) ?_
    refine wpAnyIn_ready (rs:=[40]) (by kernel_rfl) (by simp) (AllReadyIn.cons rfl (fun K hK=>?_) AllReadyIn.nil)
    go_simp
    first | refine ⟨trivial,hK _ _ ?_⟩ | refine hK _ _ ?_
    clear hK K
    refine s2 41 rfl (by kernel_rfl) (fun _ _ _=>⟨id,id⟩) (fun _=>by kernel_rfl) ?_
    refine tk (v:=?_) 43 rfl (by kernel_rfl) (fun _ _ _=>id) (fun _=>by kernel_rfl) ?_ ?_
    rotate_left; · intro w; go_simp; try with_reducible rfl
    refine wpAnyIn_done (by kernel_rfl) ?_ _
    go_end0
    exact ⟨⟨_,rfl⟩,by rw [if_neg (by simp [bD,hw0])]; exact hJ⟩
  obtain ⟨f1,t1,a1,b1,hy1,hR1⟩:=(hY c.lg 1 6 _ hR hB).1 hw0
  go_simp
  refine hR1.mono ?_
  rintro e W2 ⟨rfl,hJ,hB2⟩
  refine hK _ _ ?_
  clear hK K hy1 hR1 hR hB
  have hR:=hJ
  have hB:=hB2
  obtain ⟨c0,c1,c2,c3,c4,c5,c6⟩:=id hB
  refine tk (v:=?_) 5 rfl (by kernel_rfl) (fun _ _ _=>id) (fun _=>by kernel_rfl) ?_ ?_
  rotate_left; · intro w; go_simp; try with_reducible rfl
  refine tk (v:=?_) 6 rfl (by kernel_rfl) (fun _ _ _=>id) (fun _=>by kernel_rfl) ?_ ?_
  rotate_left; · intro w; go_simp; try with_reducible rfl
  refine tk (v:=?_) 7 rfl (by kernel_rfl) (fun _ _ _=>id) (fun _=>by kernel_rfl) ?_ ?_
  rotate_left; · intro w; go_simp; try with_reducible rfl
  refine tk (v:=?_) 9 rfl (by kernel_rfl) (fun _ _ _=>id) (fun _=>by kernel_rfl) ?_ ?_
  rotate_left; · intro w; go_simp; try with_reducible rfl
  refine wpAnyIn_ready (rs:=[8]) (by kernel_rfl) (by simp) ?_
  refine AllReadyIn.cons rfl (fun K hK=>?_) .nil
  go_simp; refine hK _ _ ?_; clear hK K
  refine wpAnyIn_ready (rs:=[10]) (by kernel_rfl) (by simp) ?_
  refine AllReadyIn.cons rfl (fun K hK=>?_) .nil
  cases hw1:aS c.th 1 16
  · obtain ⟨f1,t1,a1,b1,hy1,hR1⟩:=(hY c.th 1 16 _ hR hB).2 hw1
    go_simp
    refine hR1.mono ?_
    rintro e W2 ⟨rfl,hJ⟩
    refine hK _ _ ?_
    clear hK K hy1 hR1 hR
    refine tk (v:=?_) 11 rfl (by kernel_rfl) (fun _ _ _=>id) (fun _=>by kernel_rfl) ?_ ?_
    rotate_left; · intro w; go_simp; try with_reducible rfl
    refine tk (v:=?_) 12 rfl (by kernel_rfl) (fun _ _ _=>id) (fun _=>by kernel_rfl) ?_ ?_
    rotate_left; · intro w; go_simp; try with_reducible rfl
    refine s5 13 rfl (by kernel_rfl) (fun _ _ _=>⟨id,id,id,id,id⟩) (fun _=>by kernel_rfl) ?_
    refine tk (v:=?_) 18 rfl (by kernel_rfl) (fun _ _ _=>id) (fun _=>by kernel_rfl) ?_ ?_
    rotate_left; · intro w; go_simp; try with_reducible rfl
    refine tk (v:=?_) 19 rfl (by kernel_rfl) (fun _ _ _=>id) (fun _=>by kernel_rfl) ?_ ?_
    rotate_left; · intro w; go_simp; try with_reducible rfl
    refine s5 20 rfl (by kernel_rfl) (fun _ _ _=>⟨id,id,id,id,id⟩) (fun _=>by kernel_rfl) ?_
    refine tk (v:=?_) 25 rfl (by kernel_rfl) (fun _ _ _=>id) (fun _=>by kernel_rfl) ?_ ?_
    rotate_left; · intro w; go_simp; try with_reducible rfl
    refine tk (v:=?_) 26 rfl (by kernel_rfl) (fun _ _ _=>id) (fun _=>by kernel_rfl) ?_ ?_
    rotate_left; · intro w; go_simp; try with_reducible rfl
    refine s4 27 rfl (by kernel_rfl) (fun _ _ _=>⟨id,id,id,id⟩) (fun _=>by kernel_rfl) ?_
    refine wpAnyIn_ready (rs:=[31]) (by kernel_rfl) (by simp) (AllReadyIn.cons rfl (fun K hK=>?_) AllReadyIn.nil)
    go_simp
    first | refine ⟨trivial,hK _ _ ?_⟩ | refine hK _ _ ?_
    clear hK K
    refine s2 32 rfl (by kernel_rfl) (fun _ _ _=>⟨id,id⟩) (fun _=>by kernel_rfl) ?_
    refine tk (v:=?_) 34 rfl (by kernel_rfl) (fun _ _ _=>id) (fun _=>by kernel_rfl) ?_ ?_
    rotate_left; · intro w; go_simp; try with_reducible rfl
    refine tk (v:=?_) 35 rfl (by kernel_rfl) (fun _ _ _=>id) (fun _=>by kernel_rfl) ?_ ?_
    rotate_left; · intro w; go_simp; try with_reducible rfl
    refine s4 36 rfl (by kernel_rfl) (fun _ _ _=>⟨id,id,id,id⟩) (fun _=>by kernel_rfl) ?_
    refine wpAnyIn_ready (rs:=[40]) (by kernel_rfl) (by simp) (AllReadyIn.cons rfl (fun K hK=>?_) AllReadyIn.nil)
    go_simp
    first | refine ⟨trivial,hK _ _ ?_⟩ | refine hK _ _ ?_
    clear hK K
    refine s2 41 rfl (by kernel_rfl) (fun _ _ _=>⟨id,id⟩) (fun _=>by kernel_rfl) ?_
    refine tk (v:=?_) 43 rfl (by kernel_rfl) (fun _ _ _=>id) (fun _=>by kernel_rfl) ?_ ?_
    rotate_left; · intro w; go_simp; try with_reducible rfl
    refine wpAnyIn_done (by kernel_rfl) ?_ _
    go_end0
    exact ⟨⟨_,rfl⟩,by rw [if_neg (by simp [bD,hw1])]; exact hJ⟩
  obtain ⟨f1,t1,a1,b1,hy1,hR1⟩:=(hY c.th 1 16 _ hR hB).1 hw1
  go_simp
  refine hR1.mono ?_
  rintro e W2 ⟨rfl,hJ,hB2⟩
  refine hK _ _ ?_
  clear hK K hy1 hR1 hR hB
  have hR:=hJ
  have hB:=hB2
  obtain ⟨c0,c1,c2,c3,c4,c5,c6⟩:=id hB
  refine tk (v:=?_) 11 rfl (by kernel_rfl) (fun _ _ _=>id) (fun _=>by kernel_rfl) ?_ ?_
  rotate_left; · intro w; go_simp; try with_reducible rfl
  refine tk (v:=?_) 12 rfl (by kernel_rfl) (fun _ _ _=>id) (fun _=>by kernel_rfl) ?_ ?_
  rotate_left; · intro w; go_simp; try with_reducible rfl
  refine tk (v:=?_) 13 rfl (by kernel_rfl) (fun _ _ _=>id) (fun _=>by kernel_rfl) ?_ ?_
  rotate_left; · intro w; go_simp; try with_reducible rfl
  refine tk (v:=?_) 14 rfl (by kernel_rfl) (fun _ _ _=>id) (fun _=>by kernel_rfl) ?_ ?_
  rotate_left; · intro w; go_simp; try with_reducible rfl
  refine tk (v:=?_) 16 rfl (by kernel_rfl) (fun _ _ _=>id) (fun _=>by kernel_rfl) ?_ ?_
  rotate_left; · intro w; go_simp; try with_reducible rfl
  refine wpAnyIn_ready (rs:=[15]) (by kernel_rfl) (by simp) ?_
  refine AllReadyIn.cons rfl (fun K hK=>?_) .nil
  go_simp; refine hK _ _ ?_; clear hK K
  refine wpAnyIn_ready (rs:=[17]) (by kernel_rfl) (by simp) ?_
  refine AllReadyIn.cons rfl (fun K hK=>?_) .nil
  cases hw2:aS c.pol 0 2
  · obtain ⟨f1,t1,a1,b1,hy1,hR1⟩:=(hY c.pol 0 2 _ hR hB).2 hw2
    go_simp
    refine hR1.mono ?_
    rintro e W2 ⟨rfl,hJ⟩
    refine hK _ _ ?_
    clear hK K hy1 hR1 hR
    refine tk (v:=?_) 18 rfl (by kernel_rfl) (fun _ _ _=>id) (fun _=>by kernel_rfl) ?_ ?_
    rotate_left; · intro w; go_simp; try with_reducible rfl
    refine tk (v:=?_) 19 rfl (by kernel_rfl) (fun _ _ _=>id) (fun _=>by kernel_rfl) ?_ ?_
    rotate_left; · intro w; go_simp; try with_reducible rfl
    refine s5 20 rfl (by kernel_rfl) (fun _ _ _=>⟨id,id,id,id,id⟩) (fun _=>by kernel_rfl) ?_
    refine tk (v:=?_) 25 rfl (by kernel_rfl) (fun _ _ _=>id) (fun _=>by kernel_rfl) ?_ ?_
    rotate_left; · intro w; go_simp; try with_reducible rfl
    refine tk (v:=?_) 26 rfl (by kernel_rfl) (fun _ _ _=>id) (fun _=>by kernel_rfl) ?_ ?_
    rotate_left; · intro w; go_simp; try with_reducible rfl
    refine s4 27 rfl (by kernel_rfl) (fun _ _ _=>⟨id,id,id,id⟩) (fun _=>by kernel_rfl) ?_
    refine wpAnyIn_ready (rs:=[31]) (by kernel_rfl) (by simp) (AllReadyIn.cons rfl (fun K hK=>?_) AllReadyIn.nil)
    go_simp
    first | refine ⟨trivial,hK _ _ ?_⟩ | refine hK _ _ ?_
    clear hK K
    refine s2 32 rfl (by kernel_rfl) (fun _ _ _=>⟨id,id⟩) (fun _=>by kernel_rfl) ?_
    refine tk (v:=?_) 34 rfl (by kernel_rfl) (fun _ _ _=>id) (fun _=>by kernel_rfl) ?_ ?_
    rotate_left; · intro w; go_simp; try with_reducible rfl
    refine tk (v:=?_) 35 rfl (by kernel_rfl) (fun _ _ _=>id) (fun _=>by kernel_rfl) ?_ ?_
    rotate_left; · intro w; go_simp; try with_reducible rfl
    refine s4 36 rfl (by kernel_rfl) (fun _ _ _=>⟨id,id,id,id⟩) (fun _=>by kernel_rfl) ?_
    refine wpAnyIn_ready (rs:=[40]) (by kernel_rfl) (by simp) (AllReadyIn.cons rfl (fun K hK=>?_) AllReadyIn.nil)
    go_simp
    first | refine ⟨trivial,hK _ _ ?_⟩ | refine hK _ _ ?_
    clear hK K
    refine s2 41 rfl (by kernel_rfl) (fun _ _ _=>⟨id,id⟩) (fun _=>by kernel_rfl) ?_
    refine tk (v:=?_) 43 rfl (by kernel_rfl) (fun _ _ _=>id) (fun _=>by kernel_rfl) ?_ ?_
    rotate_left; · intro w; go_simp; try with_reducible rfl
    refine wpAnyIn_done (by kernel_rfl) ?_ _
    go_end0
    exact ⟨⟨_,rfl⟩,by rw [if_neg (by simp [bD,hw2])]; exact hJ⟩
  obtain ⟨f1,t1,a1,b1,hy1,hR1⟩:=(hY c.pol 0 2 _ hR hB).1 hw2
  go_simp
  refine hR1.mono ?_
  rintro e W2 ⟨rfl,hJ,hB2⟩
  refine hK _ _ ?_
  clear hK K hy1 hR1 hR hB
  have hR:=hJ
  have hB:=hB2
  obtain ⟨c0,c1,c2,c3,c4,c5,c6⟩:=id hB
  refine tk (v:=?_) 18 rfl (by kernel_rfl) (fun _ _ _=>id) (fun _=>by kernel_rfl) ?_ ?_
  rotate_left; · intro w; go_simp; try with_reducible rfl
  refine tk (v:=?_) 19 rfl (by kernel_rfl) (fun _ _ _=>id) (fun _=>by kernel_rfl) ?_ ?_
  rotate_left; · intro w; go_simp; try with_reducible rfl
  refine tk (v:=?_) 20 rfl (by kernel_rfl) (fun _ _ _=>id) (fun _=>by kernel_rfl) ?_ ?_
  rotate_left; · intro w; go_simp; try with_reducible rfl
  refine tk (v:=?_) 21 rfl (by kernel_rfl) (fun _ _ _=>id) (fun _=>by kernel_rfl) ?_ ?_
  rotate_left; · intro w; go_simp; try with_reducible rfl
  refine tk (v:=?_) 23 rfl (by kernel_rfl) (fun _ _ _=>id) (fun _=>by kernel_rfl) ?_ ?_
  rotate_left; · intro w; go_simp; try with_reducible rfl
  refine wpAnyIn_ready (rs:=[22]) (by kernel_rfl) (by simp) ?_
  refine AllReadyIn.cons rfl (fun K hK=>?_) .nil
  go_simp; refine hK _ _ ?_; clear hK K
  refine wpAnyIn_ready (rs:=[24]) (by kernel_rfl) (by simp) ?_
  refine AllReadyIn.cons rfl (fun K hK=>?_) .nil
  cases hw3:aS c.wt 0 3
  · obtain ⟨f1,t1,a1,b1,hy1,hR1⟩:=(hY c.wt 0 3 _ hR hB).2 hw3
    go_simp
    refine hR1.mono ?_
    rintro e W2 ⟨rfl,hJ⟩
    refine hK _ _ ?_
    clear hK K hy1 hR1 hR
    refine tk (v:=?_) 25 rfl (by kernel_rfl) (fun _ _ _=>id) (fun _=>by kernel_rfl) ?_ ?_
    rotate_left; · intro w; go_simp; try with_reducible rfl
    refine tk (v:=?_) 26 rfl (by kernel_rfl) (fun _ _ _=>id) (fun _=>by kernel_rfl) ?_ ?_
    rotate_left; · intro w; go_simp; try with_reducible rfl
    refine s4 27 rfl (by kernel_rfl) (fun _ _ _=>⟨id,id,id,id⟩) (fun _=>by kernel_rfl) ?_
    refine wpAnyIn_ready (rs:=[31]) (by kernel_rfl) (by simp) (AllReadyIn.cons rfl (fun K hK=>?_) AllReadyIn.nil)
    go_simp
    first | refine ⟨trivial,hK _ _ ?_⟩ | refine hK _ _ ?_
    clear hK K
    refine s2 32 rfl (by kernel_rfl) (fun _ _ _=>⟨id,id⟩) (fun _=>by kernel_rfl) ?_
    refine tk (v:=?_) 34 rfl (by kernel_rfl) (fun _ _ _=>id) (fun _=>by kernel_rfl) ?_ ?_
    rotate_left; · intro w; go_simp; try with_reducible rfl
    refine tk (v:=?_) 35 rfl (by kernel_rfl) (fun _ _ _=>id) (fun _=>by kernel_rfl) ?_ ?_
    rotate_left; · intro w; go_simp; try with_reducible rfl
    refine s4 36 rfl (by kernel_rfl) (fun _ _ _=>⟨id,id,id,id⟩) (fun _=>by kernel_rfl) ?_
    refine wpAnyIn_ready (rs:=[40]) (by kernel_rfl) (by simp) (AllReadyIn.cons rfl (fun K hK=>?_) AllReadyIn.nil)
    go_simp
    first | refine ⟨trivial,hK _ _ ?_⟩ | refine hK _ _ ?_
    clear hK K
    refine s2 41 rfl (by kernel_rfl) (fun _ _ _=>⟨id,id⟩) (fun _=>by kernel_rfl) ?_
    refine tk (v:=?_) 43 rfl (by kernel_rfl) (fun _ _ _=>id) (fun _=>by kernel_rfl) ?_ ?_
    rotate_left; · intro w; go_simp; try with_reducible rfl
    refine wpAnyIn_done (by kernel_rfl) ?_ _
    go_end0
    exact ⟨⟨_,rfl⟩,by rw [if_neg (by simp [bD,hw3])]; exact hJ⟩
  obtain ⟨f1,t1,a1,b1,hy1,hR1⟩:=(hY c.wt 0 3 _ hR hB).1 hw3
  go_simp
  refine hR1.mono ?_
  rintro e W2 ⟨rfl,hJ,hB2⟩
  refine hK _ _ ?_
  clear hK K hy1 hR1 hR hB
  have hR:=hJ
  have hB:=hB2
  obtain ⟨c0,c1,c2,c3,c4,c5,c6⟩:=id hB
  refine tk (v:=?_) 25 rfl (by kernel_rfl) (fun _ _ _=>id) (fun _=>by kernel_rfl) ?_ ?_
  rotate_left; · intro w; go_simp; try with_reducible rfl
  refine tk (v:=?_) 26 rfl (by kernel_rfl) (fun _ _ _=>id) (fun _=>by kernel_rfl) ?_ ?_
  rotate_left; · intro w; go_simp; try with_reducible rfl
  refine tk (v:=?_) 27 rfl (by kernel_rfl) (fun _ _ _=>id) (fun _=>by kernel_rfl) ?_ ?_
  rotate_left; · intro w; go_simp; try with_reducible rfl
  refine tk (v:=?_) 28 rfl (by kernel_rfl) (fun _ _ _=>id) (fun _=>by kernel_rfl) ?_ ?_
  rotate_left; · intro w; go_simp; try with_reducible rfl
  refine wpAnyIn_ready (rs:=[29,30]) (by kernel_rfl) (by simp) ?_
  refine AllReadyIn.cons rfl (fun K hK=>?_) ?_
  ·
    go_simp; refine hK _ _ ?_; clear hK K
    refine wpAnyIn_ready (rs:=[30]) (by kernel_rfl) (by simp) ?_
    refine AllReadyIn.cons rfl (fun K hK=>?_) .nil
    go_simp; refine hK _ _ ?_; clear hK K
    refine wpAnyIn_ready (rs:=[31]) (by kernel_rfl) (by simp) ?_
    refine AllReadyIn.cons rfl (fun K hK=>?_) .nil
    go_simp
    refine ⟨trivial,(cQ _ c _).mono ?_⟩; rintro e w2 ⟨rfl,rfl⟩
    refine hK _ _ ?_
    clear hK K
    replace hR:=hal _ (.cells (eF c) 155) hR
    replace hB:=Bx.alloc (.cells (eF c) 155) hB
    obtain ⟨c0,c1,c2,c3,c4,c5,c6⟩:=id hB
    refine tk (v:=?_) 32 rfl (by kernel_rfl) (fun _ _ _=>id) (fun _=>by kernel_rfl) ?_ ?_
    rotate_left; · intro w; go_simp; try with_reducible rfl
    refine wpAnyIn_ready (rs:=[33]) (by kernel_rfl) (by simp) ?_
    refine AllReadyIn.cons rfl (fun K hK=>?_) .nil
    cases hw4:aS c.spin 0 (aM c.wt)
    · obtain ⟨f1,t1,a1,b1,hy1,hR1⟩:=(hY c.spin 0 (aM c.wt) _ hR hB).2 hw4
      go_simp
      refine hR1.mono ?_
      rintro e W2 ⟨rfl,hJ⟩
      refine hK _ _ ?_
      clear hK K hy1 hR1 hR
      refine tk (v:=?_) 34 rfl (by kernel_rfl) (fun _ _ _=>id) (fun _=>by kernel_rfl) ?_ ?_
      rotate_left; · intro w; go_simp; try with_reducible rfl
      refine tk (v:=?_) 35 rfl (by kernel_rfl) (fun _ _ _=>id) (fun _=>by kernel_rfl) ?_ ?_
      rotate_left; · intro w; go_simp; try with_reducible rfl
      refine s4 36 rfl (by kernel_rfl) (fun _ _ _=>⟨id,id,id,id⟩) (fun _=>by kernel_rfl) ?_
      refine wpAnyIn_ready (rs:=[40]) (by kernel_rfl) (by simp) (AllReadyIn.cons rfl (fun K hK=>?_) AllReadyIn.nil)
      go_simp
      first | refine ⟨trivial,hK _ _ ?_⟩ | refine hK _ _ ?_
      clear hK K
      refine s2 41 rfl (by kernel_rfl) (fun _ _ _=>⟨id,id⟩) (fun _=>by kernel_rfl) ?_
      refine tk (v:=?_) 43 rfl (by kernel_rfl) (fun _ _ _=>id) (fun _=>by kernel_rfl) ?_ ?_
      rotate_left; · intro w; go_simp; try with_reducible rfl
      refine wpAnyIn_done (by kernel_rfl) ?_ _
      go_end0
      exact ⟨⟨_,rfl⟩,by rw [if_neg (by simp [bD,hw4])]; exact hJ⟩
    obtain ⟨f1,t1,a1,b1,hy1,hR1⟩:=(hY c.spin 0 (aM c.wt) _ hR hB).1 hw4
    go_simp
    refine hR1.mono ?_
    rintro e W2 ⟨rfl,hJ,hB2⟩
    refine hK _ _ ?_
    clear hK K hy1 hR1 hR hB
    have hR:=hJ
    have hB:=hB2
    obtain ⟨c0,c1,c2,c3,c4,c5,c6⟩:=id hB
    refine tk (v:=?_) 34 rfl (by kernel_rfl) (fun _ _ _=>id) (fun _=>by kernel_rfl) ?_ ?_
    rotate_left; · intro w; go_simp; try with_reducible rfl
    refine tk (v:=?_) 35 rfl (by kernel_rfl) (fun _ _ _=>id) (fun _=>by kernel_rfl) ?_ ?_
    rotate_left; · intro w; go_simp; try with_reducible rfl
    refine tk (v:=?_) 36 rfl (by kernel_rfl) (fun _ _ _=>id) (fun _=>by kernel_rfl) ?_ ?_
    rotate_left; · intro w; go_simp; try with_reducible rfl
    refine tk (v:=?_) 37 rfl (by kernel_rfl) (fun _ _ _=>id) (fun _=>by kernel_rfl) ?_ ?_
    rotate_left; · intro w; go_simp; try with_reducible rfl
    refine wpAnyIn_ready (rs:=[38,39]) (by kernel_rfl) (by simp) ?_
    refine AllReadyIn.cons rfl (fun K hK=>?_) ?_
    ·
      go_simp; refine hK _ _ ?_; clear hK K
      refine wpAnyIn_ready (rs:=[39]) (by kernel_rfl) (by simp) ?_
      refine AllReadyIn.cons rfl (fun K hK=>?_) .nil
      go_simp; refine hK _ _ ?_; clear hK K
      refine wpAnyIn_ready (rs:=[40]) (by kernel_rfl) (by simp) ?_
      refine AllReadyIn.cons rfl (fun K hK=>?_) .nil
      go_simp
      refine ⟨trivial,(cQ _ c _).mono ?_⟩; rintro e w2 ⟨rfl,rfl⟩
      refine hK _ _ ?_
      clear hK K
      replace hR:=hal _ (.cells (eF c) 155) hR
      replace hB:=Bx.alloc (.cells (eF c) 155) hB
      obtain ⟨c0,c1,c2,c3,c4,c5,c6⟩:=id hB
      refine tk (v:=?_) 41 rfl (by kernel_rfl) (fun _ _ _=>id) (fun _=>by kernel_rfl) ?_ ?_
      rotate_left; · intro w; go_simp; try with_reducible rfl
      refine wpAnyIn_ready (rs:=[42]) (by kernel_rfl) (by simp) ?_
      refine AllReadyIn.cons rfl (fun K hK=>?_) .nil
      cases hw5:aS c.yld 0 (aM c.wt)
      · obtain ⟨f1,t1,a1,b1,hy1,hR1⟩:=(hY c.yld 0 (aM c.wt) _ hR hB).2 hw5
        go_simp
        refine hR1.mono ?_
        rintro e W2 ⟨rfl,hJ⟩
        refine hK _ _ ?_
        clear hK K hy1 hR1 hR
        refine tk (v:=?_) 43 rfl (by kernel_rfl) (fun _ _ _=>id) (fun _=>by kernel_rfl) ?_ ?_
        rotate_left; · intro w; go_simp; try with_reducible rfl
        refine wpAnyIn_done (by kernel_rfl) ?_ _
        go_end0
        exact ⟨⟨_,rfl⟩,by rw [if_neg (by simp [bD,hw5])]; exact hJ⟩
      obtain ⟨f1,t1,a1,b1,hy1,hR1⟩:=(hY c.yld 0 (aM c.wt) _ hR hB).1 hw5
      go_simp
      refine hR1.mono ?_
      rintro e W2 ⟨rfl,hJ,hB2⟩
      refine hK _ _ ?_
      clear hK K hy1 hR1 hR hB
      have hR:=hJ
      have hB:=hB2
      obtain ⟨c0,c1,c2,c3,c4,c5,c6⟩:=id hB
      refine tk (v:=?_) 43 rfl (by kernel_rfl) (fun _ _ _=>id) (fun _=>by kernel_rfl) ?_ ?_
      rotate_left; · intro w; go_simp; try with_reducible rfl
      refine wpAnyIn_done (by kernel_rfl) ?_ _
      go_end0
      exact ⟨⟨_,rfl⟩,by rw [if_pos (by simp [bD,hw0,hw1,hw2,hw3,hw4,hw5])]; exact hJ⟩
    refine AllReadyIn.cons rfl (fun K hK=>?_) .nil
    go_simp; refine hK _ _ ?_; clear hK K
    refine wpAnyIn_ready (rs:=[38,40]) (by kernel_rfl) (by simp) ?_
    refine AllReadyIn.cons rfl (fun K hK=>?_) ?_
    ·
      go_simp; refine hK _ _ ?_; clear hK K
      refine wpAnyIn_ready (rs:=[40]) (by kernel_rfl) (by simp) ?_
      refine AllReadyIn.cons rfl (fun K hK=>?_) .nil
      go_simp
      refine ⟨trivial,(cQ _ c _).mono ?_⟩; rintro e w2 ⟨rfl,rfl⟩
      refine hK _ _ ?_
      clear hK K
      replace hR:=hal _ (.cells (eF c) 155) hR
      replace hB:=Bx.alloc (.cells (eF c) 155) hB
      obtain ⟨c0,c1,c2,c3,c4,c5,c6⟩:=id hB
      refine tk (v:=?_) 41 rfl (by kernel_rfl) (fun _ _ _=>id) (fun _=>by kernel_rfl) ?_ ?_
      rotate_left; · intro w; go_simp; try with_reducible rfl
      refine wpAnyIn_ready (rs:=[42]) (by kernel_rfl) (by simp) ?_
      refine AllReadyIn.cons rfl (fun K hK=>?_) .nil
      cases hw5:aS c.yld 0 (aM c.wt)
      · obtain ⟨f1,t1,a1,b1,hy1,hR1⟩:=(hY c.yld 0 (aM c.wt) _ hR hB).2 hw5
        go_simp
        refine hR1.mono ?_
        rintro e W2 ⟨rfl,hJ⟩
        refine hK _ _ ?_
        clear hK K hy1 hR1 hR
        refine tk (v:=?_) 43 rfl (by kernel_rfl) (fun _ _ _=>id) (fun _=>by kernel_rfl) ?_ ?_
        rotate_left; · intro w; go_simp; try with_reducible rfl
        refine wpAnyIn_done (by kernel_rfl) ?_ _
        go_end0
        exact ⟨⟨_,rfl⟩,by rw [if_neg (by simp [bD,hw5])]; exact hJ⟩
      obtain ⟨f1,t1,a1,b1,hy1,hR1⟩:=(hY c.yld 0 (aM c.wt) _ hR hB).1 hw5
      go_simp
      refine hR1.mono ?_
      rintro e W2 ⟨rfl,hJ,hB2⟩
      refine hK _ _ ?_
      clear hK K hy1 hR1 hR hB
      have hR:=hJ
      have hB:=hB2
      obtain ⟨c0,c1,c2,c3,c4,c5,c6⟩:=id hB
      refine tk (v:=?_) 43 rfl (by kernel_rfl) (fun _ _ _=>id) (fun _=>by kernel_rfl) ?_ ?_
      rotate_left; · intro w; go_simp; try with_reducible rfl
      refine wpAnyIn_done (by kernel_rfl) ?_ _
      go_end0
      exact ⟨⟨_,rfl⟩,by rw [if_pos (by simp [bD,hw0,hw1,hw2,hw3,hw4,hw5])]; exact hJ⟩
    refine AllReadyIn.cons rfl (fun K hK=>?_) .nil
    go_simp
    refine ⟨trivial,(cQ _ c _).mono ?_⟩; rintro e w2 ⟨rfl,rfl⟩
    refine hK _ _ ?_
    clear hK K
    replace hR:=hal _ (.cells (eF c) 155) hR
    replace hB:=Bx.alloc (.cells (eF c) 155) hB
    obtain ⟨c0,c1,c2,c3,c4,c5,c6⟩:=id hB
    refine tk (v:=?_) 41 rfl (by kernel_rfl) (fun _ _ _=>id) (fun _=>by kernel_rfl) ?_ ?_
    rotate_left; · intro w; go_simp; try with_reducible rfl
    refine wpAnyIn_ready (rs:=[38]) (by kernel_rfl) (by simp) ?_
    refine AllReadyIn.cons rfl (fun K hK=>?_) .nil
    go_simp; refine hK _ _ ?_; clear hK K
    refine wpAnyIn_ready (rs:=[42]) (by kernel_rfl) (by simp) ?_
    refine AllReadyIn.cons rfl (fun K hK=>?_) .nil
    cases hw5:aS c.yld 0 (aM c.wt)
    · obtain ⟨f1,t1,a1,b1,hy1,hR1⟩:=(hY c.yld 0 (aM c.wt) _ hR hB).2 hw5
      go_simp
      refine hR1.mono ?_
      rintro e W2 ⟨rfl,hJ⟩
      refine hK _ _ ?_
      clear hK K hy1 hR1 hR
      refine tk (v:=?_) 43 rfl (by kernel_rfl) (fun _ _ _=>id) (fun _=>by kernel_rfl) ?_ ?_
      rotate_left; · intro w; go_simp; try with_reducible rfl
      refine wpAnyIn_done (by kernel_rfl) ?_ _
      go_end0
      exact ⟨⟨_,rfl⟩,by rw [if_neg (by simp [bD,hw5])]; exact hJ⟩
    obtain ⟨f1,t1,a1,b1,hy1,hR1⟩:=(hY c.yld 0 (aM c.wt) _ hR hB).1 hw5
    go_simp
    refine hR1.mono ?_
    rintro e W2 ⟨rfl,hJ,hB2⟩
    refine hK _ _ ?_
    clear hK K hy1 hR1 hR hB
    have hR:=hJ
    have hB:=hB2
    obtain ⟨c0,c1,c2,c3,c4,c5,c6⟩:=id hB
    refine tk (v:=?_) 43 rfl (by kernel_rfl) (fun _ _ _=>id) (fun _=>by kernel_rfl) ?_ ?_
    rotate_left; · intro w; go_simp; try with_reducible rfl
    refine wpAnyIn_done (by kernel_rfl) ?_ _
    go_end0
    exact ⟨⟨_,rfl⟩,by rw [if_pos (by simp [bD,hw0,hw1,hw2,hw3,hw4,hw5])]; exact hJ⟩
  refine AllReadyIn.cons rfl (fun K hK=>?_) .nil
  go_simp; refine hK _ _ ?_; clear hK K
  refine wpAnyIn_ready (rs:=[29,31]) (by kernel_rfl) (by simp) ?_
  refine AllReadyIn.cons rfl (fun K hK=>?_) ?_
  ·
    go_simp; refine hK _ _ ?_; clear hK K
    refine wpAnyIn_ready (rs:=[31]) (by kernel_rfl) (by simp) ?_
    refine AllReadyIn.cons rfl (fun K hK=>?_) .nil
    go_simp
    refine ⟨trivial,(cQ _ c _).mono ?_⟩; rintro e w2 ⟨rfl,rfl⟩
    refine hK _ _ ?_
    clear hK K
    replace hR:=hal _ (.cells (eF c) 155) hR
    replace hB:=Bx.alloc (.cells (eF c) 155) hB
    obtain ⟨c0,c1,c2,c3,c4,c5,c6⟩:=id hB
    refine tk (v:=?_) 32 rfl (by kernel_rfl) (fun _ _ _=>id) (fun _=>by kernel_rfl) ?_ ?_
    rotate_left; · intro w; go_simp; try with_reducible rfl
    refine wpAnyIn_ready (rs:=[33]) (by kernel_rfl) (by simp) ?_
    refine AllReadyIn.cons rfl (fun K hK=>?_) .nil
    cases hw4:aS c.spin 0 (aM c.wt)
    · obtain ⟨f1,t1,a1,b1,hy1,hR1⟩:=(hY c.spin 0 (aM c.wt) _ hR hB).2 hw4
      go_simp
      refine hR1.mono ?_
      rintro e W2 ⟨rfl,hJ⟩
      refine hK _ _ ?_
      clear hK K hy1 hR1 hR
      refine tk (v:=?_) 34 rfl (by kernel_rfl) (fun _ _ _=>id) (fun _=>by kernel_rfl) ?_ ?_
      rotate_left; · intro w; go_simp; try with_reducible rfl
      refine tk (v:=?_) 35 rfl (by kernel_rfl) (fun _ _ _=>id) (fun _=>by kernel_rfl) ?_ ?_
      rotate_left; · intro w; go_simp; try with_reducible rfl
      refine s4 36 rfl (by kernel_rfl) (fun _ _ _=>⟨id,id,id,id⟩) (fun _=>by kernel_rfl) ?_
      refine wpAnyIn_ready (rs:=[40]) (by kernel_rfl) (by simp) (AllReadyIn.cons rfl (fun K hK=>?_) AllReadyIn.nil)
      go_simp
      first | refine ⟨trivial,hK _ _ ?_⟩ | refine hK _ _ ?_
      clear hK K
      refine s2 41 rfl (by kernel_rfl) (fun _ _ _=>⟨id,id⟩) (fun _=>by kernel_rfl) ?_
      refine tk (v:=?_) 43 rfl (by kernel_rfl) (fun _ _ _=>id) (fun _=>by kernel_rfl) ?_ ?_
      rotate_left; · intro w; go_simp; try with_reducible rfl
      refine wpAnyIn_done (by kernel_rfl) ?_ _
      go_end0
      exact ⟨⟨_,rfl⟩,by rw [if_neg (by simp [bD,hw4])]; exact hJ⟩
    obtain ⟨f1,t1,a1,b1,hy1,hR1⟩:=(hY c.spin 0 (aM c.wt) _ hR hB).1 hw4
    go_simp
    refine hR1.mono ?_
    rintro e W2 ⟨rfl,hJ,hB2⟩
    refine hK _ _ ?_
    clear hK K hy1 hR1 hR hB
    have hR:=hJ
    have hB:=hB2
    obtain ⟨c0,c1,c2,c3,c4,c5,c6⟩:=id hB
    refine tk (v:=?_) 34 rfl (by kernel_rfl) (fun _ _ _=>id) (fun _=>by kernel_rfl) ?_ ?_
    rotate_left; · intro w; go_simp; try with_reducible rfl
    refine tk (v:=?_) 35 rfl (by kernel_rfl) (fun _ _ _=>id) (fun _=>by kernel_rfl) ?_ ?_
    rotate_left; · intro w; go_simp; try with_reducible rfl
    refine tk (v:=?_) 36 rfl (by kernel_rfl) (fun _ _ _=>id) (fun _=>by kernel_rfl) ?_ ?_
    rotate_left; · intro w; go_simp; try with_reducible rfl
    refine tk (v:=?_) 37 rfl (by kernel_rfl) (fun _ _ _=>id) (fun _=>by kernel_rfl) ?_ ?_
    rotate_left; · intro w; go_simp; try with_reducible rfl
    refine wpAnyIn_ready (rs:=[38,39]) (by kernel_rfl) (by simp) ?_
    refine AllReadyIn.cons rfl (fun K hK=>?_) ?_
    ·
      go_simp; refine hK _ _ ?_; clear hK K
      refine wpAnyIn_ready (rs:=[39]) (by kernel_rfl) (by simp) ?_
      refine AllReadyIn.cons rfl (fun K hK=>?_) .nil
      go_simp; refine hK _ _ ?_; clear hK K
      refine wpAnyIn_ready (rs:=[40]) (by kernel_rfl) (by simp) ?_
      refine AllReadyIn.cons rfl (fun K hK=>?_) .nil
      go_simp
      refine ⟨trivial,(cQ _ c _).mono ?_⟩; rintro e w2 ⟨rfl,rfl⟩
      refine hK _ _ ?_
      clear hK K
      replace hR:=hal _ (.cells (eF c) 155) hR
      replace hB:=Bx.alloc (.cells (eF c) 155) hB
      obtain ⟨c0,c1,c2,c3,c4,c5,c6⟩:=id hB
      refine tk (v:=?_) 41 rfl (by kernel_rfl) (fun _ _ _=>id) (fun _=>by kernel_rfl) ?_ ?_
      rotate_left; · intro w; go_simp; try with_reducible rfl
      refine wpAnyIn_ready (rs:=[42]) (by kernel_rfl) (by simp) ?_
      refine AllReadyIn.cons rfl (fun K hK=>?_) .nil
      cases hw5:aS c.yld 0 (aM c.wt)
      · obtain ⟨f1,t1,a1,b1,hy1,hR1⟩:=(hY c.yld 0 (aM c.wt) _ hR hB).2 hw5
        go_simp
        refine hR1.mono ?_
        rintro e W2 ⟨rfl,hJ⟩
        refine hK _ _ ?_
        clear hK K hy1 hR1 hR
        refine tk (v:=?_) 43 rfl (by kernel_rfl) (fun _ _ _=>id) (fun _=>by kernel_rfl) ?_ ?_
        rotate_left; · intro w; go_simp; try with_reducible rfl
        refine wpAnyIn_done (by kernel_rfl) ?_ _
        go_end0
        exact ⟨⟨_,rfl⟩,by rw [if_neg (by simp [bD,hw5])]; exact hJ⟩
      obtain ⟨f1,t1,a1,b1,hy1,hR1⟩:=(hY c.yld 0 (aM c.wt) _ hR hB).1 hw5
      go_simp
      refine hR1.mono ?_
      rintro e W2 ⟨rfl,hJ,hB2⟩
      refine hK _ _ ?_
      clear hK K hy1 hR1 hR hB
      have hR:=hJ
      have hB:=hB2
      obtain ⟨c0,c1,c2,c3,c4,c5,c6⟩:=id hB
      refine tk (v:=?_) 43 rfl (by kernel_rfl) (fun _ _ _=>id) (fun _=>by kernel_rfl) ?_ ?_
      rotate_left; · intro w; go_simp; try with_reducible rfl
      refine wpAnyIn_done (by kernel_rfl) ?_ _
      go_end0
      exact ⟨⟨_,rfl⟩,by rw [if_pos (by simp [bD,hw0,hw1,hw2,hw3,hw4,hw5])]; exact hJ⟩
    refine AllReadyIn.cons rfl (fun K hK=>?_) .nil
    go_simp; refine hK _ _ ?_; clear hK K
    refine wpAnyIn_ready (rs:=[38,40]) (by kernel_rfl) (by simp) ?_
    refine AllReadyIn.cons rfl (fun K hK=>?_) ?_
    ·
      go_simp; refine hK _ _ ?_; clear hK K
      refine wpAnyIn_ready (rs:=[40]) (by kernel_rfl) (by simp) ?_
      refine AllReadyIn.cons rfl (fun K hK=>?_) .nil
      go_simp
      refine ⟨trivial,(cQ _ c _).mono ?_⟩; rintro e w2 ⟨rfl,rfl⟩
      refine hK _ _ ?_
      clear hK K
      replace hR:=hal _ (.cells (eF c) 155) hR
      replace hB:=Bx.alloc (.cells (eF c) 155) hB
      obtain ⟨c0,c1,c2,c3,c4,c5,c6⟩:=id hB
      refine tk (v:=?_) 41 rfl (by kernel_rfl) (fun _ _ _=>id) (fun _=>by kernel_rfl) ?_ ?_
      rotate_left; · intro w; go_simp; try with_reducible rfl
      refine wpAnyIn_ready (rs:=[42]) (by kernel_rfl) (by simp) ?_
      refine AllReadyIn.cons rfl (fun K hK=>?_) .nil
      cases hw5:aS c.yld 0 (aM c.wt)
      · obtain ⟨f1,t1,a1,b1,hy1,hR1⟩:=(hY c.yld 0 (aM c.wt) _ hR hB).2 hw5
        go_simp
        refine hR1.mono ?_
        rintro e W2 ⟨rfl,hJ⟩
        refine hK _ _ ?_
        clear hK K hy1 hR1 hR
        refine tk (v:=?_) 43 rfl (by kernel_rfl) (fun _ _ _=>id) (fun _=>by kernel_rfl) ?_ ?_
        rotate_left; · intro w; go_simp; try with_reducible rfl
        refine wpAnyIn_done (by kernel_rfl) ?_ _
        go_end0
        exact ⟨⟨_,rfl⟩,by rw [if_neg (by simp [bD,hw5])]; exact hJ⟩
      obtain ⟨f1,t1,a1,b1,hy1,hR1⟩:=(hY c.yld 0 (aM c.wt) _ hR hB).1 hw5
      go_simp
      refine hR1.mono ?_
      rintro e W2 ⟨rfl,hJ,hB2⟩
      refine hK _ _ ?_
      clear hK K hy1 hR1 hR hB
      have hR:=hJ
      have hB:=hB2
      obtain ⟨c0,c1,c2,c3,c4,c5,c6⟩:=id hB
      refine tk (v:=?_) 43 rfl (by kernel_rfl) (fun _ _ _=>id) (fun _=>by kernel_rfl) ?_ ?_
      rotate_left; · intro w; go_simp; try with_reducible rfl
      refine wpAnyIn_done (by kernel_rfl) ?_ _
      go_end0
      exact ⟨⟨_,rfl⟩,by rw [if_pos (by simp [bD,hw0,hw1,hw2,hw3,hw4,hw5])]; exact hJ⟩
    refine AllReadyIn.cons rfl (fun K hK=>?_) .nil
    go_simp
    refine ⟨trivial,(cQ _ c _).mono ?_⟩; rintro e w2 ⟨rfl,rfl⟩
    refine hK _ _ ?_
    clear hK K
    replace hR:=hal _ (.cells (eF c) 155) hR
    replace hB:=Bx.alloc (.cells (eF c) 155) hB
    obtain ⟨c0,c1,c2,c3,c4,c5,c6⟩:=id hB
    refine tk (v:=?_) 41 rfl (by kernel_rfl) (fun _ _ _=>id) (fun _=>by kernel_rfl) ?_ ?_
    rotate_left; · intro w; go_simp; try with_reducible rfl
    refine wpAnyIn_ready (rs:=[38]) (by kernel_rfl) (by simp) ?_
    refine AllReadyIn.cons rfl (fun K hK=>?_) .nil
    go_simp; refine hK _ _ ?_; clear hK K
    refine wpAnyIn_ready (rs:=[42]) (by kernel_rfl) (by simp) ?_
    refine AllReadyIn.cons rfl (fun K hK=>?_) .nil
    cases hw5:aS c.yld 0 (aM c.wt)
    · obtain ⟨f1,t1,a1,b1,hy1,hR1⟩:=(hY c.yld 0 (aM c.wt) _ hR hB).2 hw5
      go_simp
      refine hR1.mono ?_
      rintro e W2 ⟨rfl,hJ⟩
      refine hK _ _ ?_
      clear hK K hy1 hR1 hR
      refine tk (v:=?_) 43 rfl (by kernel_rfl) (fun _ _ _=>id) (fun _=>by kernel_rfl) ?_ ?_
      rotate_left; · intro w; go_simp; try with_reducible rfl
      refine wpAnyIn_done (by kernel_rfl) ?_ _
      go_end0
      exact ⟨⟨_,rfl⟩,by rw [if_neg (by simp [bD,hw5])]; exact hJ⟩
    obtain ⟨f1,t1,a1,b1,hy1,hR1⟩:=(hY c.yld 0 (aM c.wt) _ hR hB).1 hw5
    go_simp
    refine hR1.mono ?_
    rintro e W2 ⟨rfl,hJ,hB2⟩
    refine hK _ _ ?_
    clear hK K hy1 hR1 hR hB
    have hR:=hJ
    have hB:=hB2
    obtain ⟨c0,c1,c2,c3,c4,c5,c6⟩:=id hB
    refine tk (v:=?_) 43 rfl (by kernel_rfl) (fun _ _ _=>id) (fun _=>by kernel_rfl) ?_ ?_
    rotate_left; · intro w; go_simp; try with_reducible rfl
    refine wpAnyIn_done (by kernel_rfl) ?_ _
    go_end0
    exact ⟨⟨_,rfl⟩,by rw [if_pos (by simp [bD,hw0,hw1,hw2,hw3,hw4,hw5])]; exact hJ⟩
  refine AllReadyIn.cons rfl (fun K hK=>?_) .nil
  go_simp
  refine ⟨trivial,(cQ _ c _).mono ?_⟩; rintro e w2 ⟨rfl,rfl⟩
  refine hK _ _ ?_
  clear hK K
  replace hR:=hal _ (.cells (eF c) 155) hR
  replace hB:=Bx.alloc (.cells (eF c) 155) hB
  obtain ⟨c0,c1,c2,c3,c4,c5,c6⟩:=id hB
  refine tk (v:=?_) 32 rfl (by kernel_rfl) (fun _ _ _=>id) (fun _=>by kernel_rfl) ?_ ?_
  rotate_left; · intro w; go_simp; try with_reducible rfl
  refine wpAnyIn_ready (rs:=[29]) (by kernel_rfl) (by simp) ?_
  refine AllReadyIn.cons rfl (fun K hK=>?_) .nil
  go_simp; refine hK _ _ ?_; clear hK K
  refine wpAnyIn_ready (rs:=[33]) (by kernel_rfl) (by simp) ?_
  refine AllReadyIn.cons rfl (fun K hK=>?_) .nil
  cases hw4:aS c.spin 0 (aM c.wt)
  · obtain ⟨f1,t1,a1,b1,hy1,hR1⟩:=(hY c.spin 0 (aM c.wt) _ hR hB).2 hw4
    go_simp
    refine hR1.mono ?_
    rintro e W2 ⟨rfl,hJ⟩
    refine hK _ _ ?_
    clear hK K hy1 hR1 hR
    refine tk (v:=?_) 34 rfl (by kernel_rfl) (fun _ _ _=>id) (fun _=>by kernel_rfl) ?_ ?_
    rotate_left; · intro w; go_simp; try with_reducible rfl
    refine tk (v:=?_) 35 rfl (by kernel_rfl) (fun _ _ _=>id) (fun _=>by kernel_rfl) ?_ ?_
    rotate_left; · intro w; go_simp; try with_reducible rfl
    refine s4 36 rfl (by kernel_rfl) (fun _ _ _=>⟨id,id,id,id⟩) (fun _=>by kernel_rfl) ?_
    refine wpAnyIn_ready (rs:=[40]) (by kernel_rfl) (by simp) (AllReadyIn.cons rfl (fun K hK=>?_) AllReadyIn.nil)
    go_simp
    first | refine ⟨trivial,hK _ _ ?_⟩ | refine hK _ _ ?_
    clear hK K
    refine s2 41 rfl (by kernel_rfl) (fun _ _ _=>⟨id,id⟩) (fun _=>by kernel_rfl) ?_
    refine tk (v:=?_) 43 rfl (by kernel_rfl) (fun _ _ _=>id) (fun _=>by kernel_rfl) ?_ ?_
    rotate_left; · intro w; go_simp; try with_reducible rfl
    refine wpAnyIn_done (by kernel_rfl) ?_ _
    go_end0
    exact ⟨⟨_,rfl⟩,by rw [if_neg (by simp [bD,hw4])]; exact hJ⟩
  obtain ⟨f1,t1,a1,b1,hy1,hR1⟩:=(hY c.spin 0 (aM c.wt) _ hR hB).1 hw4
  go_simp
  refine hR1.mono ?_
  rintro e W2 ⟨rfl,hJ,hB2⟩
  refine hK _ _ ?_
  clear hK K hy1 hR1 hR hB
  have hR:=hJ
  have hB:=hB2
  obtain ⟨c0,c1,c2,c3,c4,c5,c6⟩:=id hB
  refine tk (v:=?_) 34 rfl (by kernel_rfl) (fun _ _ _=>id) (fun _=>by kernel_rfl) ?_ ?_
  rotate_left; · intro w; go_simp; try with_reducible rfl
  refine tk (v:=?_) 35 rfl (by kernel_rfl) (fun _ _ _=>id) (fun _=>by kernel_rfl) ?_ ?_
  rotate_left; · intro w; go_simp; try with_reducible rfl
  refine tk (v:=?_) 36 rfl (by kernel_rfl) (fun _ _ _=>id) (fun _=>by kernel_rfl) ?_ ?_
  rotate_left; · intro w; go_simp; try with_reducible rfl
  refine tk (v:=?_) 37 rfl (by kernel_rfl) (fun _ _ _=>id) (fun _=>by kernel_rfl) ?_ ?_
  rotate_left; · intro w; go_simp; try with_reducible rfl
  refine wpAnyIn_ready (rs:=[38,39]) (by kernel_rfl) (by simp) ?_
  refine AllReadyIn.cons rfl (fun K hK=>?_) ?_
  ·
    go_simp; refine hK _ _ ?_; clear hK K
    refine wpAnyIn_ready (rs:=[39]) (by kernel_rfl) (by simp) ?_
    refine AllReadyIn.cons rfl (fun K hK=>?_) .nil
    go_simp; refine hK _ _ ?_; clear hK K
    refine wpAnyIn_ready (rs:=[40]) (by kernel_rfl) (by simp) ?_
    refine AllReadyIn.cons rfl (fun K hK=>?_) .nil
    go_simp
    refine ⟨trivial,(cQ _ c _).mono ?_⟩; rintro e w2 ⟨rfl,rfl⟩
    refine hK _ _ ?_
    clear hK K
    replace hR:=hal _ (.cells (eF c) 155) hR
    replace hB:=Bx.alloc (.cells (eF c) 155) hB
    obtain ⟨c0,c1,c2,c3,c4,c5,c6⟩:=id hB
    refine tk (v:=?_) 41 rfl (by kernel_rfl) (fun _ _ _=>id) (fun _=>by kernel_rfl) ?_ ?_
    rotate_left; · intro w; go_simp; try with_reducible rfl
    refine wpAnyIn_ready (rs:=[42]) (by kernel_rfl) (by simp) ?_
    refine AllReadyIn.cons rfl (fun K hK=>?_) .nil
    cases hw5:aS c.yld 0 (aM c.wt)
    · obtain ⟨f1,t1,a1,b1,hy1,hR1⟩:=(hY c.yld 0 (aM c.wt) _ hR hB).2 hw5
      go_simp
      refine hR1.mono ?_
      rintro e W2 ⟨rfl,hJ⟩
      refine hK _ _ ?_
      clear hK K hy1 hR1 hR
      refine tk (v:=?_) 43 rfl (by kernel_rfl) (fun _ _ _=>id) (fun _=>by kernel_rfl) ?_ ?_
      rotate_left; · intro w; go_simp; try with_reducible rfl
      refine wpAnyIn_done (by kernel_rfl) ?_ _
      go_end0
      exact ⟨⟨_,rfl⟩,by rw [if_neg (by simp [bD,hw5])]; exact hJ⟩
    obtain ⟨f1,t1,a1,b1,hy1,hR1⟩:=(hY c.yld 0 (aM c.wt) _ hR hB).1 hw5
    go_simp
    refine hR1.mono ?_
    rintro e W2 ⟨rfl,hJ,hB2⟩
    refine hK _ _ ?_
    clear hK K hy1 hR1 hR hB
    have hR:=hJ
    have hB:=hB2
    obtain ⟨c0,c1,c2,c3,c4,c5,c6⟩:=id hB
    refine tk (v:=?_) 43 rfl (by kernel_rfl) (fun _ _ _=>id) (fun _=>by kernel_rfl) ?_ ?_
    rotate_left; · intro w; go_simp; try with_reducible rfl
    refine wpAnyIn_done (by kernel_rfl) ?_ _
    go_end0
    exact ⟨⟨_,rfl⟩,by rw [if_pos (by simp [bD,hw0,hw1,hw2,hw3,hw4,hw5])]; exact hJ⟩
  refine AllReadyIn.cons rfl (fun K hK=>?_) .nil
  go_simp; refine hK _ _ ?_; clear hK K
  refine wpAnyIn_ready (rs:=[38,40]) (by kernel_rfl) (by simp) ?_
  refine AllReadyIn.cons rfl (fun K hK=>?_) ?_
  ·
    go_simp; refine hK _ _ ?_; clear hK K
    refine wpAnyIn_ready (rs:=[40]) (by kernel_rfl) (by simp) ?_
    refine AllReadyIn.cons rfl (fun K hK=>?_) .nil
    go_simp
    refine ⟨trivial,(cQ _ c _).mono ?_⟩; rintro e w2 ⟨rfl,rfl⟩
    refine hK _ _ ?_
    clear hK K
    replace hR:=hal _ (.cells (eF c) 155) hR
    replace hB:=Bx.alloc (.cells (eF c) 155) hB
    obtain ⟨c0,c1,c2,c3,c4,c5,c6⟩:=id hB
    refine tk (v:=?_) 41 rfl (by kernel_rfl) (fun _ _ _=>id) (fun _=>by kernel_rfl) ?_ ?_
    rotate_left; · intro w; go_simp; try with_reducible rfl
    refine wpAnyIn_ready (rs:=[42]) (by kernel_rfl) (by simp) ?_
    refine AllReadyIn.cons rfl (fun K hK=>?_) .nil
    cases hw5:aS c.yld 0 (aM c.wt)
    · obtain ⟨f1,t1,a1,b1,hy1,hR1⟩:=(hY c.yld 0 (aM c.wt) _ hR hB).2 hw5
      go_simp
      refine hR1.mono ?_
      rintro e W2 ⟨rfl,hJ⟩
      refine hK _ _ ?_
      clear hK K hy1 hR1 hR
      refine tk (v:=?_) 43 rfl (by kernel_rfl) (fun _ _ _=>id) (fun _=>by kernel_rfl) ?_ ?_
      rotate_left; · intro w; go_simp; try with_reducible rfl
      refine wpAnyIn_done (by kernel_rfl) ?_ _
      go_end0
      exact ⟨⟨_,rfl⟩,by rw [if_neg (by simp [bD,hw5])]; exact hJ⟩
    obtain ⟨f1,t1,a1,b1,hy1,hR1⟩:=(hY c.yld 0 (aM c.wt) _ hR hB).1 hw5
    go_simp
    refine hR1.mono ?_
    rintro e W2 ⟨rfl,hJ,hB2⟩
    refine hK _ _ ?_
    clear hK K hy1 hR1 hR hB
    have hR:=hJ
    have hB:=hB2
    obtain ⟨c0,c1,c2,c3,c4,c5,c6⟩:=id hB
    refine tk (v:=?_) 43 rfl (by kernel_rfl) (fun _ _ _=>id) (fun _=>by kernel_rfl) ?_ ?_
    rotate_left; · intro w; go_simp; try with_reducible rfl
    refine wpAnyIn_done (by kernel_rfl) ?_ _
    go_end0
    exact ⟨⟨_,rfl⟩,by rw [if_pos (by simp [bD,hw0,hw1,hw2,hw3,hw4,hw5])]; exact hJ⟩
  refine AllReadyIn.cons rfl (fun K hK=>?_) .nil
  go_simp
  refine ⟨trivial,(cQ _ c _).mono ?_⟩; rintro e w2 ⟨rfl,rfl⟩
  refine hK _ _ ?_
  clear hK K
  replace hR:=hal _ (.cells (eF c) 155) hR
  replace hB:=Bx.alloc (.cells (eF c) 155) hB
  obtain ⟨c0,c1,c2,c3,c4,c5,c6⟩:=id hB
  refine tk (v:=?_) 41 rfl (by kernel_rfl) (fun _ _ _=>id) (fun _=>by kernel_rfl) ?_ ?_
  rotate_left; · intro w; go_simp; try with_reducible rfl
  refine wpAnyIn_ready (rs:=[38]) (by kernel_rfl) (by simp) ?_
  refine AllReadyIn.cons rfl (fun K hK=>?_) .nil
  go_simp; refine hK _ _ ?_; clear hK K
  refine wpAnyIn_ready (rs:=[42]) (by kernel_rfl) (by simp) ?_
  refine AllReadyIn.cons rfl (fun K hK=>?_) .nil
  cases hw5:aS c.yld 0 (aM c.wt)
  · obtain ⟨f1,t1,a1,b1,hy1,hR1⟩:=(hY c.yld 0 (aM c.wt) _ hR hB).2 hw5
    go_simp
    refine hR1.mono ?_
    rintro e W2 ⟨rfl,hJ⟩
    refine hK _ _ ?_
    clear hK K hy1 hR1 hR
    refine tk (v:=?_) 43 rfl (by kernel_rfl) (fun _ _ _=>id) (fun _=>by kernel_rfl) ?_ ?_
    rotate_left; · intro w; go_simp; try with_reducible rfl
    refine wpAnyIn_done (by kernel_rfl) ?_ _
    go_end0
    exact ⟨⟨_,rfl⟩,by rw [if_neg (by simp [bD,hw5])]; exact hJ⟩
  obtain ⟨f1,t1,a1,b1,hy1,hR1⟩:=(hY c.yld 0 (aM c.wt) _ hR hB).1 hw5
  go_simp
  refine hR1.mono ?_
  rintro e W2 ⟨rfl,hJ,hB2⟩
  refine hK _ _ ?_
  clear hK K hy1 hR1 hR hB
  have hR:=hJ
  have hB:=hB2
  obtain ⟨c0,c1,c2,c3,c4,c5,c6⟩:=id hB
  refine tk (v:=?_) 43 rfl (by kernel_rfl) (fun _ _ _=>id) (fun _=>by kernel_rfl) ?_ ?_
  rotate_left; · intro w; go_simp; try with_reducible rfl
  refine wpAnyIn_done (by kernel_rfl) ?_ _
  go_end0
  exact ⟨⟨_,rfl⟩,by rw [if_pos (by simp [bD,hw0,hw1,hw2,hw3,hw4,hw5])]; exact hJ⟩

end Go.Sak
namespace Go.Sak
open Go Go.RowKit Go.Shelf Go.Proofs Go.Sort
set_option linter.unusedVariables false
set_option linter.unusedSimpArgs false
set_option maxRecDepth 100000
set_option maxHeartbeats 2000000

end Go.Sak
namespace Go.Sak
open Go Go.RowKit Go.Shelf Go.Proofs
attribute [local go_sem] Oper.semAt_some
set_option linter.unusedVariables false
set_option linter.unusedSimpArgs false
set_option maxRecDepth 100000
set_option maxHeartbeats 4000000

theorem zN (W:World) (v:Value) (t:TypeId):(W.alloc (.cells #[v] t)).cell? ⟨W.heap.size,0,none⟩=some v∧(W.alloc (.cells #[v] t)).frozen? ⟨W.heap.size,0,none⟩=false:=by
  have h:=World.alloc_heap_new W (.cells #[v] t)
  exact ⟨by unfold World.cell?; rw [h]; rfl,by unfold World.frozen?; rw [h]; rfl⟩
theorem pA (c:Config) (w:World):Calls Zi 76 #[.agg (eF c)] w fun e W'=>e=.returned (.int .i64 (bV c))∧Below w.heap.size w W':=by
  refine (callsIn_wide (n:=5)).1 ?_
  refine callsIn_of_wp_marks Tryz.func76 rfl trivial ?_ rfl
  simp only [Tryz.ntmps76,eF,EP,AQ,BT,Zs,Zt,DT,DU,EO,DZ,BE,CF]
  gi_wp2
  have hs:=zN (w.alloc (.cells (eF c) 23)) (.int .i64 0) 36
  rw [World.size_alloc] at hs
  have hB0:Below w.heap.size w ((w.alloc (.cells (eF c) 23)).alloc (.cells #[.int .i64 0] 36)):=((Below.refl _ w).alloc (AP _) _).alloc (by simp) _
  let I:Int→World→Prop:=fun v W=>W.cell? ⟨w.heap.size+1,0,none⟩=some (.int .i64 v)∧W.frozen? ⟨w.heap.size+1,0,none⟩=false∧Below w.heap.size w W
  have hIp:∀ v W k o o',I v W→w.heap.size+2≤k→W.heap[k]?=some o→o.isCells=false→I v (W.putObj k o'):=fun v W k o o' h hk ho hc =>
    ⟨cell_kept h.1 (grownBy_putObj' W k o') (fun r e=>by cases e; exact ⟨o,ho,hc⟩),(frozen_kept h.1 (grownBy_putObj' W k o') (fun r e=>by cases e; exact ⟨o,ho,hc⟩)).trans h.2.1,h.2.2.trans ⟨rfl,rfl,rfl,by simp,fun i hi=>World.putObj_heap_other (by omega)⟩⟩
  have hIa:∀ v W o,I v W→I v (W.alloc o):=fun v W o h=>⟨fF _ h.1,(frozen_kept h.1 (World.grownBy_alloc W o none) (fun r e=>by cases e)).trans h.2.1,h.2.2.alloc h.2.2.size _⟩
  have hId:∀ v W,I v W→I v W.drew:=fun v W h=>⟨h.1,h.2.1,h.2.2.drew⟩
  have hsz:((w.alloc (.cells (eF c) 23)).alloc (.cells #[.int .i64 0] 36)).heap.size=w.heap.size+2:=by simp
  simp only [eF] at hs hB0 hsz
  refine Ao (n:=5) (by omega) (gf:=127) (fst:=#[.agg (eF c)]) rfl (enters_of Tryz.func127 (by kernel_rfl) rfl) (α:=Int×Int×Int) (fun x=>#[.int .i64 x.1,.agg #[.int .i64 x.2.1,.int .i64 x.2.2]]) (fun x=>aS x.1 x.2.1 x.2.2) (bD c) (fun _=>rfl) (I 0) (I 20)
    (fun x a1 W=>∃ S,W.cell? ⟨S,0,none⟩=some (.int .i64 x.2.1)∧W.cell? ⟨S,1,none⟩=some (.int .i64 x.2.2)∧I 0 W ∧
      a1 = { tmps:=#[.agg (eF c),.pointer (some ⟨w.heap.size,0,none⟩),.pointer (some ⟨w.heap.size+1,0,none⟩),.func (.func 127) #[.agg (eF c)] #[],.int .i64 x.1,.pointer (some ⟨S,0,none⟩),.agg (eF c),.func (.func 127) #[.agg (eF c)] #[],.func (.func 127) #[.agg (eF c)] #[],
        .int .i64 x.1,.agg #[.int .i64 x.2.1,.int .i64 x.2.2],undef,undef,undef,undef,undef,undef,undef,undef,undef,undef],defers:=[] })
    (fun W k o o' h hk=>hIp 0 W k o o' h (by rw [hsz] at hk; exact hk)) (fun W k o o' h hk=>hIp 20 W k o o' h (by rw [hsz] at hk; exact hk)) ?hA (hIa 0) (hId 0) ⟨hs.1,hs.2,hB0⟩ ?assign ?body ?it ?done ?stop
  case hA =>
    rintro x a' W k o o' ⟨S,q1,q2,q3,q4⟩ hk ho hc
    rw [hsz] at hk
    exact ⟨S,cell_kept q1 (grownBy_putObj' W k o') (fun r e=>by cases e; exact ⟨o,ho,hc⟩),cell_kept q2 (grownBy_putObj' W k o') (fun r e=>by cases e; exact ⟨o,ho,hc⟩),hIp 0 W k o o' q3 hk ho hc,q4⟩
  case assign =>
    intro l x W hI hle K hK
    simp only [eF] at hK
    gi_wp2
    have hn:=World.alloc_heap_new W (.cells #[.int .i64 x.2.1,.int .i64 x.2.2] 156)
    exact hK _ _ ⟨by simp,fun k h1 h2=>Below.heap_alloc W _ k h2⟩ ⟨W.heap.size,by unfold World.cell?; rw [hn]; rfl,by unfold World.cell?; rw [hn]; rfl,hIa _ _ _ hI,rfl⟩
  case body =>
    rintro l x a1 W ⟨S,q1,q2,⟨q3,q5,q6⟩,rfl⟩
    simp only [eF]
    rw [hsz]
    have hk:KF (w.heap.size+2) W (W.setCell ⟨w.heap.size+1,0,none⟩ (.int .i64 20)):=⟨by simp,fun k h1 _=>Below.heap_setCell W ⟨w.heap.size+1,0,none⟩ _ k (by simp; omega)⟩
    have hi:I 20 (W.setCell ⟨w.heap.size+1,0,none⟩ (.int .i64 20)):=⟨World.cell?_setCell_same' _ _ _ (by rw [q3]; rfl),by rw [World.frozen?_setCell]; exact q5,q6.setCell (p:=⟨w.heap.size+1,0,none⟩) (by simp) _⟩
    gi_wp2
    · exact ⟨by simp [aS]; omega,hi⟩
    · exact ⟨⟨AP _,fun _ _ _=>rfl⟩,by simp [aS]; omega,q3,q5,q6⟩
    · exact ⟨by simp [aS]; omega,hi⟩
  case it =>
    intro l W Rd Dn hal hdr hY h0
    refine CallsIn.mono (tN (5 - 1) (by omega) c l W (fun V=>Rd V∧W.heap.size<V.heap.size+1) Dn (fun V o h=>⟨hal _ _ h.1,by have:=h.2; simp; omega⟩) (fun V h=>⟨hdr _ h.1,h.2⟩) (fun x lo hi V hV hb=>?_) ⟨h0,Nat.lt_succ_self _⟩) (fun e W' h=>⟨h.1,?_⟩)
    · have hy:=hY (x,lo,hi) V hV.1 (by have:=hV.2; omega)
      have hlt:W.heap.size<V.heap.size:=by
        obtain ⟨ob,hob,_⟩:=cells_of_cell hb.1
        exact (AT.1 hob).1
      refine ⟨fun hw=>hy.mono ?_,fun hw=>hy.mono ?_⟩
      · rintro e W' ⟨hk,⟨q1,q2,q3⟩ | ⟨q1,_⟩⟩
        · exact ⟨q2,⟨q3,by have:=hk.1; omega⟩,hb.keep (hk.2 _ (AP _) hlt)⟩
        · simp only [] at q1; rw [hw] at q1; cases q1
      · rintro e W' ⟨hk,⟨q1,_⟩ | ⟨q1,q2,q3⟩⟩
        · simp only [] at q1; rw [hw] at q1; cases q1
        · exact ⟨q2,q3⟩
    · have:=h.2
      split <;> rename_i hc
      · rw [if_pos hc] at this; exact this.1
      · rw [if_neg hc] at this; exact this
  case done =>
    rintro W hf ⟨hc,hfr,hB⟩ hK
    rw [hsz] at hK
    rw [hsz]
    gi_wp2
    have hK':=(KeepsOthers.setCell W ⟨w.heap.size+1,0,none⟩ (.int .i64 0)).same _ _ hK rfl
    refine ⟨by simp,.inl ⟨_,_,rfl,run_takeDeferred hK',?_⟩⟩
    have hc5:=cell_kept (World.cell?_setCell_same' W ⟨w.heap.size+1,0,none⟩ (.int .i64 0) (by rw [hc]; rfl)) (grownBy_putObj' _ (w.heap.size+2) (.deferred none)) (fun r e=>by cases e; exact ⟨_,hK',rfl⟩)
    refine ⟨.int .i64 0,?_,by simp [bV,hf],(hB.setCell (p:=⟨w.heap.size+1,0,none⟩) (by simp) _).trans ⟨rfl,rfl,rfl,by simp,fun i hi=>World.putObj_heap_other (by omega)⟩⟩
    simp [results,Tryz.f76,go_sem,hc5]
  case stop =>
    rintro W hf ⟨hc,hfr,hB⟩ hK
    rw [hsz] at hK
    rw [hsz]
    gi_wp2
    refine ⟨by simp,.inl ⟨_,_,rfl,run_takeDeferred hK,?_⟩⟩
    have hc5:=cell_kept hc (grownBy_putObj' _ (w.heap.size+2) (.deferred none)) (fun r e=>by cases e; exact ⟨_,hK,rfl⟩)
    refine ⟨.int .i64 20,?_,by simp [bV,hf],hB.trans ⟨rfl,rfl,rfl,by simp,fun i hi=>World.putObj_heap_other (by omega)⟩⟩
    simp [results,Tryz.f76,go_sem,hc5]

theorem Gd.grow {c:Ctx} (h:Gd c) {w':World} (hb:Below c.w.heap.size c.w w'):Gd { c with w:=w' }∧St c { c with w:=w' }:=by
  have hs:St c { c with w:=w' }:=⟨hb.os,hb.tape,hb.output,hb.size,fun b hl _=>hb.block b hl,rfl,fun _ _ e=>e,fun _ e=>e,fun _ _ e=>⟨e,rfl⟩⟩
  refine ⟨Gd.mk' (fun n hn=>AN (h.lt n hn) hb.size) h.inj h.notF h.used (fun g b hm=>?_) (fun i hi=>AN (h.flt i hi) hb.size),hs⟩
  obtain ⟨o,h1,h2⟩:=h.blk hm
  exact ⟨o,(hb.block _ (h.lt g (by simp [Ctx.L,show c.m g=some b from hm]))).trans h1,h2.mono hs⟩
theorem oC {P:Program} {f:FuncId} {args:List AV} {v:AV} (hcal:eU P f) (h:∀ c vs,Gd c→ARel c args vs→∃ z,Calls P f vs c.w (fun e W'=>e=.returned z∧Below c.w.heap.size c.w W')∧∀ c',VR c' v z):bO P f args (v,[],[]):=by
  refine ⟨hcal,fun c hc hm hU vs hvs=>?_⟩
  obtain ⟨z,h1,h2⟩:=h c vs hc hvs
  refine h1.mono ?_
  rintro e W' ⟨rfl,hb⟩
  obtain ⟨g,s⟩:=hc.grow hb
  exact ⟨{ c with w:=W' },z,rfl,rfl,g,s,hm,fun n hn=>.inr hn,h2 _⟩
theorem By {c:Ctx} {k:Config} {v:Value} (h:VR c (.agg (tT k)) v):v=.agg (eF k):=by
  cases h with
  | agg _ us h1 h2 h3 =>
    have hi:∀ (i:Nat) (q:IntKind) (n:Int),(tT k)[i]?=some (.int q n)→us.getD i bX=.int q n:=fun i q n he=>by
      have:=h3 i _ he
      generalize us.getD i bX=u at this
      cases this; rfl
    have hb:us.getD 6 bX=.bool k.single:=by
      have:=h3 6 (.bool k.single) rfl
      generalize us.getD 6 bX=u at this
      cases this; rfl
    have hsz:us.size=7:=by simpa [tT] using h1.symm
    congr 1
    apply HF
    · simp [hsz,eF]
    · intro i hi1 hi2
      have hg:us[i]=us.getD i bX:=by simp [hi1]
      rw [hg]
      match i with
      | 0=>rw [hi 0 .i64 k.lg rfl]; rfl
      | 1=>rw [hi 1 .i64 k.th rfl]; rfl
      | 2=>rw [hi 2 .i64 k.pol rfl]; rfl
      | 3=>rw [hi 3 .i64 k.wt rfl]; rfl
      | 4=>rw [hi 4 .i64 k.spin rfl]; rfl
      | 5=>rw [hi 5 .i64 k.yld rfl]; rfl
      | 6=>rw [hb]; rfl
      | i+7=>simp [eF] at hi2; omega
theorem jT (k:Config):bO Zi 76 [.agg (tT k)] (.int .i64 (bV k),[],[]):=by
  refine oC ⟨_,Tryz.func76,by kernel_rfl,by kernel_rfl⟩ fun c vs hc hvs=>⟨.int .i64 (bV k),?_,fun c'=>.int _ _ (by unfold bV; split <;> decide)⟩
  have h0:=By (hvs.2 0 _ rfl)
  have hsz:vs.size=1:=by simpa using hvs.1.symm
  have hv:vs=#[.agg (eF k)]:=by
    apply HF
    · simp [hsz]
    · intro i h1 h2
      have:i=0:=by simp at h2; omega
      subst this
      rw [← h0]; simp [h1]
  rw [hv]
  exact pA k c.w
theorem vM {tP tQ nA tR kF nC:Int} {fQ:Bool}:bO Zi 76 [.agg [.int .i64 tP,.int .i64 tQ,.int .i64 nA,.int .i64 tR,.int .i64 kF,.int .i64 nC,.bool fQ]] (.int .i64 (bV ⟨tP,tQ,nA,tR,kF,nC,fQ⟩),[],[]):=jT ⟨tP,tQ,nA,tR,kF,nC,fQ⟩
end Go.Sak
