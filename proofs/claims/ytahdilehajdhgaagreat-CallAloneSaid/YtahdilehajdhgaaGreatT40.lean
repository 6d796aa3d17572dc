/- Part T40 of the proofs about the program: Pl, Pn. Conditions: none. -/
import Derived.Test.YtahdilehajdhgaaGreatT03
open Bool renaming and_eq_true→D9,not_eq_true'→M8,or_eq_true→H9
open List renaming any_eq_false→S7,getD_eq_getElem?_getD→E6,getElem?_set→O2,length_nil→L7,length_set→G8,mem_append→N9,mem_cons→N2,not_mem_nil→X9,set_set→d7
namespace Go.Sak
open Go Go.RowKit
set_option linter.unusedVariables false
set_option linter.unusedSimpArgs false

theorem Mv {x:Int} {l:List Int}:l.any (fun y=>decide (x=y))=true↔x∈l:=by simp
theorem Ja:∀ (l out:List Int),(lU out l).length=out.length+l.length↔(∀ x,x∈l→x∉out)∧l.Nodup
  | [],out=>by simp [lU]
  | x :: xs,out=>by
    simp only [lU]
    by_cases h:x∈out
    · rw [if_pos (Mv.2 h)]
      have:=Xt xs out
      constructor
      · intro e; simp at e; omega
      · intro e; exact absurd h (e.1 x (by simp))
    · rw [if_neg (fun e=>h (Mv.1 e))]
      have:=Ja xs (out ++ [x])
      simp only [List.length_append,List.length_cons,L7,N9,N2,X9,or_false,not_or,List.nodup_cons] at this ⊢
      rw [show out.length+(xs.length+1)=out.length+(0+1)+xs.length from by omega,this]
      constructor
      · rintro ⟨h1,h2⟩
        refine ⟨fun y hy=>?_,fun hx=>(h1 x hx).2 rfl,h2⟩
        rcases hy with rfl | hy
        · exact h
        · exact (h1 y hy).1
      · rintro ⟨h1,h2,h3⟩
        exact ⟨fun y hy=>⟨h1 y (.inr hy),fun e=>h2 (e ▸ hy)⟩,h3⟩
theorem vB {l:List Int}:gX l=true↔l.Nodup∧∀ x,x∈l→0≤x∧x<16:=by
  simp only [gX,D9,decide_eq_true_eq,M8,S7,Ce,H9,not_or]
  have:=Ja l []
  simp only [L7,Nat.zero_add,X9,not_false_eq_true,implies_true,true_and] at this
  rw [this]
  constructor
  · rintro ⟨h1,h2⟩; exact ⟨h2,fun x hx=>by have:=h1 x hx; omega⟩
  · rintro ⟨h1,h2⟩; exact ⟨fun x hx=>by have:=h2 x hx; omega,h1⟩
theorem Dv {n:Int} {l:List Int}:dG n l=true↔l.Nodup∧∀ x,x∈l→0≤x∧x<16∧x<n:=by
  simp only [dG,D9,vB,M8,S7,H9,decide_eq_true_eq,not_or]
  constructor
  · rintro ⟨⟨h1,h2⟩,h3⟩; exact ⟨h1,fun x hx=>by have:=h2 x hx; have:=h3 x hx; omega⟩
  · rintro ⟨h1,h2⟩; exact ⟨⟨h1,fun x hx=>by have:=h2 x hx; omega⟩,fun x hx=>by have:=h2 x hx; omega⟩
theorem Lp {l:List Int} {id:Int} (h:gX l=true) (hp:¬ gY l id≥0):id∉l:=by
  simp only [gY,h,if_true,wS] at hp
  split at hp
  · omega
  · rename_i hn
    intro hm
    have:=List.findIdx?_eq_none_iff.1 hn id hm
    simp at this
theorem sH {n:Int} {l:List Int} {id:Int} (h:dG n l=true) (h0:0≤id) (h1:id<n):dG n (iC l id).1=true:=by
  unfold iC; split
  · exact h
  · split
    · exact h
    · rename_i h2 h3
      simp only [not_or,Classical.not_not] at h2
      have hm:=Lp h2.1 h3
      have h16:=(vB.1 h2.2).2 id (by simp)
      rw [Dv] at h ⊢
      refine ⟨?_,fun x hx=>?_⟩
      · rw [List.nodup_append]
        refine ⟨h.1,by simp,fun a ha b hb=>?_⟩
        simp at hb; subst hb; intro e; exact hm (e ▸ ha)
      · simp only [N9,N2,X9,or_false] at hx
        rcases hx with hx | rfl
        · exact h.2 x hx
        · omega
theorem tL {n:Int} {l k:List Int} (h:dG n l=true) (hs:k.Sublist l):dG n k=true:=by
  rw [Dv] at h ⊢
  exact ⟨h.1.sublist hs,fun x hx=>h.2 x (hs.subset hx)⟩
theorem Cc {l k:List Int} (h:gX l=true) (hs:k.Sublist l):gX k=true:=by
  rw [vB] at h ⊢
  exact ⟨h.1.sublist hs,fun x hx=>h.2 x (hs.subset hx)⟩
theorem zA {n:Int} {l:List Int} (h:dG n l=true):gX l=true:=by
  simp only [dG,D9] at h; exact h.1
theorem sI {n:Int} {l:List Int} {id:Int} (h:dG n l=true):dG n (iX l id).1=true:=by
  unfold iX; split
  · exact h
  · exact tL h (List.eraseIdx_sublist ..)

structure Fab (s:State):Prop where
  room:fL s.cfg≠0
  word:cT s.word (fL s.cfg)=true
  len:(s.slots.length:Int)=fL s.cfg
  slot:dA s.slots=true
  sends:dG s.cfg.th s.sends=true
  recvs:dG s.cfg.th s.recvs=true
  fl:dG s.cfg.th s.full.ln=true
  el:dG s.cfg.th s.empty.ln=true
  full:eZ s.full=true
  empty:eZ s.empty=true
  now0:0≤s.now
  now1:s.now≤1099511627776
  thl:(s.threads.length:Int)=s.cfg.th
  thr:∀ t,t∈s.threads→cZ t=true
theorem qO {s:State}:bZ s=true↔Fab s:=by
  have ha:s.threads.any (fun t=>!cZ t)=false↔∀ t,t∈s.threads→cZ t=true:=by simp [S7]
  simp only [bZ,D9,decide_eq_true_eq,M8,ha]
  constructor
  · rintro ⟨⟨⟨⟨⟨⟨⟨⟨⟨⟨⟨⟨⟨a,b⟩,c⟩,d⟩,e⟩,f⟩,g⟩,h⟩,i⟩,j⟩,k⟩,l⟩,m⟩,n⟩
    exact ⟨a,b,c,d,e,f,g,h,i,j,k,l,m,n⟩
  · rintro ⟨a,b,c,d,e,f,g,h,i,j,k,l,m,n⟩
    exact ⟨⟨⟨⟨⟨⟨⟨⟨⟨⟨⟨⟨⟨a,b⟩,c⟩,d⟩,e⟩,f⟩,g⟩,h⟩,i⟩,j⟩,k⟩,l⟩,m⟩,n⟩
theorem Fab.put {s:State} {id:Int} {t:Thread} (h:Fab s) (ht:cZ t=true):Fab (dD s id t) :=
  ⟨h.room,h.word,h.len,h.slot,h.sends,h.recvs,h.fl,h.el,h.full,h.empty,h.now0,h.now1,by simp only [dD,G8]; exact h.thl,fun x hx=>by
    rcases List.mem_or_eq_of_mem_set hx with hx | rfl
    · exact h.thr x hx
    · exact ht⟩
theorem Fab.logged {s:State} {e:Entry} (h:Fab s):Fab (logged s e):=⟨h.room,h.word,h.len,h.slot,h.sends,h.recvs,h.fl,h.el,h.full,h.empty,h.now0,h.now1,h.thl,h.thr⟩
theorem Fab.wd {s:State} {w:Word} (h:Fab s) (hw:cT w (fL s.cfg)=true):Fab (cK s w):=⟨h.room,hw,h.len,h.slot,h.sends,h.recvs,h.fl,h.el,h.full,h.empty,h.now0,h.now1,h.thl,h.thr⟩
theorem Fab.sl {s:State} {l:List Slot} (h:Fab s) (h1:l.length=s.slots.length) (h2:dA l=true):Fab (cR s l):=⟨h.room,h.word,by simp only [cR,h1]; exact h.len,h2,h.sends,h.recvs,h.fl,h.el,h.full,h.empty,h.now0,h.now1,h.thl,h.thr⟩
theorem Fab.sd {s:State} {l:List Int} (h:Fab s) (h1:dG s.cfg.th l=true):Fab (eJ s l):=⟨h.room,h.word,h.len,h.slot,h1,h.recvs,h.fl,h.el,h.full,h.empty,h.now0,h.now1,h.thl,h.thr⟩
theorem Fab.rv {s:State} {l:List Int} (h:Fab s) (h1:dG s.cfg.th l=true):Fab (eI s l):=⟨h.room,h.word,h.len,h.slot,h.sends,h1,h.fl,h.el,h.full,h.empty,h.now0,h.now1,h.thl,h.thr⟩
theorem Fab.fu {s:State} {e:Event} (h:Fab s) (h1:dG s.cfg.th e.ln=true) (h2:eZ e=true):Fab (cQ s e):=⟨h.room,h.word,h.len,h.slot,h.sends,h.recvs,h1,h.el,h2,h.empty,h.now0,h.now1,h.thl,h.thr⟩
theorem Fab.em {s:State} {e:Event} (h:Fab s) (h1:dG s.cfg.th e.ln=true) (h2:eZ e=true):Fab (cH s e):=⟨h.room,h.word,h.len,h.slot,h.sends,h.recvs,h.fl,h1,h.full,h2,h.now0,h.now1,h.thl,h.thr⟩

theorem Zj {t:Thread} {pc:Int} (h:cZ t=true) (hr:t.st=1) (h0:0≤pc) (h1:pc≤11):cZ (iD t pc)=true:=by
  simp only [cZ,nC,nE,jN,iD,cD,D9,H9,decide_eq_true_eq] at *; grind
theorem MB {t:Thread} {x:Int} (h:cZ t=true) (hr:t.st=1) (h0:0≤x) (h1:x≤1099511627776):cZ (fB t x)=true:=by
  simp only [cZ,nC,nE,jN,fB,cD,D9,H9,decide_eq_true_eq] at *; grind
theorem GS {t:Thread} {x:Int} (h:cZ t=true) (hr:t.st=1) (h0:-1≤x) (h1:x≤1099511627776):cZ (eP t x)=true:=by
  simp only [cZ,nC,nE,jN,eP,cD,D9,H9,decide_eq_true_eq] at *; grind
theorem Zk {t:Thread} {x:Int} (h:cZ t=true) (hr:t.st=1) (h0:0≤x) (h1:x≤1099511627776):cZ (dU t x)=true:=by
  simp only [cZ,nC,nE,jN,dU,cD,D9,H9,decide_eq_true_eq] at *; grind
theorem GT {t:Thread} {k r g:Int} (h:cZ t=true) (hr:t.st=1) (h0:0≤r) (h1:r≤7):cZ (nY t k r g)=true:=by
  unfold nY; split
  · simp only [cZ,nC,nE,jN,cD,D9,H9,decide_eq_true_eq] at *; grind
  · exact h
theorem Ow {t:Thread} (h:cZ t=true):cZ (oR t)=true:=by
  unfold oR; split
  · simp only [cZ,nC,nE,jN,cD,D9,H9,decide_eq_true_eq] at *; grind
  · exact h
theorem Ov {t:Thread} {pc:Int} (h:cZ t=true) (h0:0≤pc) (h1:pc≤11):cZ (Cw t pc).1=true:=by
  unfold Cw; split
  · exact h
  · rename_i hr
    simp only [kB] at hr
    simp only [cZ,nC,nE,jN,cD,D9,H9,decide_eq_true_eq] at *; grind
theorem Hb {t:Thread} (h:cZ t=true):cZ (xG t).1=true:=by
  unfold xG; split
  · exact h
  · rename_i hr
    simp only [kB] at hr
    simp only [cZ,nC,nE,jN,cD,xF,D9,H9,decide_eq_true_eq,Bool.not_false] at *; grind

structure Rn (s:State) (id:Int):Prop where
  fab:Fab s
  lo:0≤id
  hi:id<s.threads.length
  run:(me s id).st=1
theorem Yk {s:State} {id:Int} {t:Thread} (h0:0≤id) (h1:id<s.threads.length):me (dD s id t) id=t:=by
  unfold me dD
  have:id.toNat<s.threads.length:=by omega
  simp [E6,O2,this]
theorem Sh {s:State} {i j:Int} {t:Thread} (h0:0≤i) (h1:0≤j) (h:i≠j):me (dD s j t) i=me s i:=by
  unfold me dD
  have:j.toNat≠i.toNat:=by omega
  simp [E6,O2,this]
theorem Rn.tc {s:State} {id:Int} (h:Rn s id):cZ (me s id)=true:=h.fab.thr _ (by
  unfold me
  have:=h.lo; have:=h.hi
  exact iA (by omega))
theorem Rn.is {s:State} {id:Int} (h:Rn s id):cN s id=true:=by
  simp only [cN,D9,decide_eq_true_eq]; exact ⟨⟨qO.2 h.fab,h.lo⟩,h.hi⟩
theorem Jq {s:State} {id:Int} (h:cN s id=true) (hr:kB (me s id)=0):Rn s id:=by
  simp only [cN,D9,decide_eq_true_eq] at h
  have hf:=qO.1 h.1.1
  refine ⟨hf,h.1.2,h.2,?_⟩
  have ht:cZ (me s id)=true:=hf.thr _ (by unfold me; exact iA (by omega))
  simp only [cZ,cD,D9,decide_eq_true_eq] at ht
  unfold kB at hr
  split at hr
  · cases hr
  · split at hr
    · cases hr
    · omega
theorem Rn.put {s:State} {id:Int} {t:Thread} (h:Rn s id) (ht:cZ t=true) (hr:t.st=1):Rn (dD s id t) id :=
  ⟨h.fab.put ht,h.lo,by simp only [dD,G8]; exact h.hi,by rw [Yk h.lo h.hi]; exact hr⟩
theorem Rn.at {s:State} {id pc:Int} (h:Rn s id) (h0:0≤pc) (h1:pc≤11):Rn (kM s id pc) id:=h.put (Zj h.tc h.run h0 h1) h.run
theorem Rn.tell {s:State} {id k r g:Int} (h:Rn s id) (h0:0≤r) (h1:r≤7):Rn (eO s id k r g) id:=by
  unfold eO
  rw [if_pos h.is]
  have:=h.put (GT (k:=k) (g:=g) h.tc h.run h0 h1) (by unfold nY; split <;> exact h.run)
  exact ⟨this.fab.logged,this.lo,this.hi,this.run⟩
theorem Rn.rtell {s:State} {id k r g pc:Int} (h:Rn s id) (h0:0≤r) (h1:r≤7) (h2:0≤pc) (h3:pc≤11):Rn (gD s id k r g pc) id:=(h.tell h0 h1).at h2 h3
theorem Rn.ends {s:State} {id r pc:Int} (h:Rn s id) (h0:0≤r) (h1:r≤7) (h2:0≤pc) (h3:pc≤11):Rn (fZ s id r pc) id:=h.rtell h0 h1 h2 h3
theorem QM {t:Thread} (h:cZ t=true):0≤t.pc∧t.pc≤11∧0≤t.tries∧t.tries≤1099511627776∧0≤t.reg∧t.reg≤1099511627776∧-1≤t.seen∧t.seen≤1099511627776:=by
  simp only [cZ,jN,cD,D9,decide_eq_true_eq] at h; omega
theorem Rn.on {s:State} {id:Int} (h:Rn s id):Rn (vI s id) id:=by
  have:=QM h.tc
  exact h.put (Zk h.tc h.run (by omega) (by omega)) h.run
theorem Rn.reg {s:State} {id x:Int} (h:Rn s id) (h0:0≤x) (h1:x≤1099511627776):Rn (dD s id (fB (me s id) x)) id:=h.put (MB h.tc h.run h0 h1) h.run
theorem Rn.seen {s:State} {id x:Int} (h:Rn s id) (h0:-1≤x) (h1:x≤1099511627776):Rn (dD s id (eP (me s id) x)) id:=h.put (GS h.tc h.run h0 h1) h.run
theorem Rn.wd {s:State} {id:Int} {w:Word} (h:Rn s id) (hw:cT w (fL s.cfg)=true):Rn (cK s w) id:=⟨h.fab.wd hw,h.lo,h.hi,h.run⟩
theorem Rn.sl {s:State} {id:Int} {l:List Slot} (h:Rn s id) (h1:l.length=s.slots.length) (h2:dA l=true):Rn (cR s l) id:=⟨h.fab.sl h1 h2,h.lo,h.hi,h.run⟩
theorem Rn.sd {s:State} {id:Int} {l:List Int} (h:Rn s id) (h1:dG s.cfg.th l=true):Rn (eJ s l) id:=⟨h.fab.sd h1,h.lo,h.hi,h.run⟩
theorem Rn.rv {s:State} {id:Int} {l:List Int} (h:Rn s id) (h1:dG s.cfg.th l=true):Rn (eI s l) id:=⟨h.fab.rv h1,h.lo,h.hi,h.run⟩
theorem Rn.fu {s:State} {id:Int} {e:Event} (h:Rn s id) (h1:dG s.cfg.th e.ln=true) (h2:eZ e=true):Rn (cQ s e) id:=⟨h.fab.fu h1 h2,h.lo,h.hi,h.run⟩
theorem Rn.em {s:State} {id:Int} {e:Event} (h:Rn s id) (h1:dG s.cfg.th e.ln=true) (h2:eZ e=true):Rn (cH s e) id:=⟨h.fab.em h1 h2,h.lo,h.hi,h.run⟩
theorem Fab.wake {s:State} {j:Int} (h:Fab s):Fab (cM s j):=by
  unfold cM; split
  · rename_i hi
    simp only [cN,D9,decide_eq_true_eq] at hi
    exact h.put (Ow (h.thr _ (by unfold me; exact iA (by omega))))
  · exact h
theorem Zx {s:State} {id j:Int} (h0:0≤id) (hr:(me s id).st=1):me (cM s j) id=me s id:=by
  unfold cM; split
  · rename_i hi
    simp only [cN,D9,decide_eq_true_eq] at hi
    by_cases e:id=j
    · subst e; rw [Yk hi.1.2 hi.2]; unfold oR; rw [if_neg (by omega)]
    · exact Sh h0 hi.1.2 e
  · rfl
theorem Rn.wake {s:State} {id j:Int} (h:Rn s id):Rn (cM s j) id :=
  ⟨h.fab.wake,h.lo,by
    have:=h.hi
    unfold cM; split
    · simpa [dD] using this
    · exact this,by rw [Zx h.lo h.run]; exact h.run⟩

theorem Tg {w:Word} {room:Int} (h:cT w room=true):cT (jQ w room).1 room=true:=by
  unfold jQ
  split
  · exact h
  · split
    · exact h
    · split
      · exact h
      · rename_i h1 h2 h3
        simp only [oP,decide_eq_true_eq,not_or] at h3
        obtain ⟨h3,h4⟩:=h3
        simp only [cT,cD,D9,decide_eq_true_eq] at h ⊢
        have hl:iN ⟨w.h,w.t+1,w.m⟩≤room:=by
          simp only [iN] at h3 h ⊢
          split at h3 <;> split <;> (try split at h3) <;> (try split) <;> omega
        omega
theorem Zz {w:Word} {room head:Int} (h:cT w room=true):cT (rJ w room head).1 room=true:=by
  unfold rJ
  split
  · exact h
  · rename_i h1
    simp only [not_or,oP,decide_eq_true_eq,Classical.not_not] at h1
    obtain ⟨h0,h1,h2,h3⟩:=h1
    simp only [cT,cD,D9,decide_eq_true_eq] at h ⊢
    have hl:iN ⟨w.h+1,w.t,w.m⟩≤room∧w.h+1≤w.t:=by
      simp only [iN] at h2 h3 h ⊢
      split at h3 <;> split <;> (try split at h3) <;> (try split) <;> omega
    omega
theorem Pq {w:Word} {room:Int} (h:cT w room=true):cT (kG w room).1 room=true:=by
  unfold kG
  split
  · exact h
  · split
    · rename_i h1 h3
      simp only [cT,cD,D9,decide_eq_true_eq] at h ⊢
      have hl:iN ⟨w.h+1,w.t,w.m⟩≤room∧w.h+1≤w.t:=by
        simp only [iN] at h3 h ⊢
        split at h3 <;> split <;> (try split at h3) <;> (try split) <;> omega
      omega
    · split <;> exact h
theorem Au {w:Word} {room:Int}:0≤(jQ w room).2.2∧(jQ w room).2.2≤7:=by
  unfold jQ; split
  · simp
  · split
    · simp
    · split <;> simp
theorem Ju {w:Word} {room:Int}:0≤(kG w room).2.2∧(kG w room).2.2≤7:=by
  unfold kG; split
  · simp
  · split
    · simp
    · split <;> simp
theorem Ha {l:List Slot}:dA l=true↔(1≤l.length∧l.length≤64)∧∀ j,j<l.length→0≤(l.getD j default).stamp∧(l.getD j default).stamp≤2199023255552∧iI (l.getD j default).stamp l.length=j:=by
  simp only [dA,D9,decide_eq_true_eq,List.all_eq_true,List.mem_range,vP]
  constructor
  · rintro ⟨⟨h1,h2⟩,h3⟩; exact ⟨⟨h2,h3⟩,fun j hj=>⟨(h1 j hj).1.1,(h1 j hj).1.2,(h1 j hj).2⟩⟩
  · rintro ⟨⟨h2,h3⟩,h1⟩; exact ⟨⟨fun j hj=>⟨⟨(h1 j hj).1,(h1 j hj).2.1⟩,(h1 j hj).2.2⟩,h2⟩,h3⟩
theorem Bw {α:Type} {l:List α} {i j:Nat} {x d:α}:(l.set i x).getD j d=if i=j∧i<l.length then x else l.getD j d:=by
  simp only [E6,O2]
  by_cases h:i=j
  · subst h
    by_cases h2:i<l.length
    · simp [h2]
    · simp [h2]
  · simp [h]
theorem Ze {l:List Slot} {i:Nat} {x:Slot} (h:dA l=true) (h0:0≤x.stamp) (h1:x.stamp≤2199023255552) (h2:i<l.length→iI x.stamp l.length=i):dA (l.set i x)=true:=by
  rw [Ha] at h ⊢
  rw [G8]
  refine ⟨h.1,fun j hj=>?_⟩
  rw [Bw]
  split
  · rename_i e; obtain ⟨rfl,e⟩:=e; exact ⟨h0,h1,h2 e⟩
  · exact h.2 j hj
theorem Fb {l:List Slot} {p:Int} (h:dA l=true) (hp:0≤p):jM l p<l.length:=by
  have:=(Ha.1 h).1
  have h1:=kV p l.length hp
  have h2:=kU p l.length (by omega)
  unfold jM; omega
theorem Jn {l:List Slot} {p:Int} (h:hP l p=true):0≤p∧dA l=true∧(l.getD (jM l p) default).stamp=p:=by
  simp only [hP,D9,decide_eq_true_eq] at h; exact ⟨h.1.1,h.1.2,h.2⟩
theorem Zf {l:List Slot} {p v:Int} (h:dA l=true):dA (gO l p v).1=true:=by
  unfold gO; split
  · exact h
  · rename_i hp
    split
    · exact h
    · simp only [not_or] at hp
      have hl:=Fb h (p:=p) (by omega)
      have:=(Ha.1 h).2 _ hl
      exact Ze h this.1 this.2.1 (fun _=>this.2.2)
theorem Sp {p room:Int} (h0:0≤p) (h1:1≤room):iI (p+room) room=iI p room:=by
  unfold iI Jl
  rw [if_pos (by simp; omega),if_pos (by simp; omega),Int.tmod_eq_emod_of_nonneg (by omega),Int.tmod_eq_emod_of_nonneg h0,Int.add_emod_right]
theorem Cu {l:List Slot} {p:Int} (h:dA l=true):dA (eY l p).1=true:=by
  unfold eY; split
  · exact h
  · rename_i hp
    split
    · exact h
    · rename_i hm
      simp only [not_or,Classical.not_not] at hp
      have hl:=Fb h (p:=p) (by omega)
      have hs:=(Jn hp.2.2).2.2
      have hh:=Ha.1 h
      have:=hh.2 _ hl
      refine Ze h ?_ ?_ (fun _=>?_)
      · simp only []; omega
      · simp only []; omega
      · simp only []; rw [Sp this.1 (by omega)]; exact this.2.2
theorem Sw {l:List Slot} {p x:Int}:(gO l p x).1.length=l.length:=by
  unfold gO; split
  · rfl
  · split <;> simp
theorem Fc {l:List Slot} {p:Int}:(eY l p).1.length=l.length:=by
  unfold eY; split
  · rfl
  · split <;> simp
theorem tG {e:Event}:eZ e=true↔0≤e.ep∧e.ep≤1099511627776∧gX e.ln=true:=by
  simp only [eZ,D9,decide_eq_true_eq,and_assoc,ge_iff_le]
theorem IV {e:Event} {n:Int} (h:eZ e=true) (ha:dG n e.ln=true):eZ (fI e).1=true∧dG n (fI e).1.ln=true:=by
  have h':=tG.1 h
  unfold fI
  rw [if_neg (by simp [h])]
  split
  · rename_i hl; rw [hl] at ha; refine ⟨tG.2 ⟨?_,?_,?_⟩,?_⟩
    · simp only []; omega
    · simp only []; omega
    · rfl
    · exact tL ha (List.Sublist.refl _)
  · rename_i x l hl; rw [hl] at ha
    refine ⟨tG.2 ⟨?_,?_,?_⟩,tL ha (List.sublist_cons_self ..)⟩
    · simp only []; omega
    · simp only []; omega
    · exact zA (tL ha (List.sublist_cons_self ..))
theorem Zv {e:Event} {n seen id:Int} (h:eZ e=true) (ha:dG n e.ln=true) (h0:0≤id) (h1:id<n):eZ (kF e seen id).1=true∧dG n (kF e seen id).1.ln=true:=by
  have h':=tG.1 h
  unfold kF
  rw [if_neg (by simp [h])]
  split
  · exact ⟨h,ha⟩
  · have hh:=sH (id:=id) ha h0 h1
    exact ⟨tG.2 ⟨h'.1,h'.2.1,zA hh⟩,hh⟩
theorem Pp {e:Event}:-1≤oC e∧oC e≤1099511627776:=by
  unfold oC; split
  · rename_i h; have:=tG.1 h; omega
  · decide
theorem Fab.wb {s:State} (h:Fab s):0≤s.word.h∧s.word.h≤s.word.t∧s.word.t≤1099511627776∧0≤s.word.m∧s.word.m≤2:=by
  have:=h.word
  simp only [cT,cD,D9,decide_eq_true_eq] at this; omega

theorem LU {s:State} {id:Int} (h:Rn s id):Rn (Cr s id) id:=by
  have hb:=h.fab.wb
  unfold Cr; split
  · exact h.ends (by decide) (by decide) (by decide) (by decide)
  · split
    · exact (h.reg (by omega) (by omega)).at (by decide) (by decide)
    · split
      · exact h.ends (by decide) (by decide) (by decide) (by decide)
      · split
        · exact h.ends (by decide) (by decide) (by decide) (by decide)
        · split
          · exact h.at (by decide) (by decide)
          · exact h.on
theorem GO {s:State} {id:Int} (h:Fab s):Fab (oQ s id):=by
  unfold oQ
  split
  · exact h
  · rename_i hI
    simp only [Classical.not_not,nP,D9,decide_eq_true_eq] at hI
    have hR:Rn s id:=Jq hI.1.1 hI.1.2
    have hb:=h.wb
    have hl:=h.len
    split
    · exact ((hR.sd (sH h.sends hR.lo (by have:=h.thl; have:=hR.hi; omega))).at (by decide) (by decide)).fab
    · unfold vM; split
      · exact (hR.at (by decide) (by decide)).fab
      · split
        · exact (hR.ends (by decide) (by decide) (by decide) (by decide)).fab
        · exact hR.on.fab
    · unfold Ct; split
      · exact ((hR.reg (by omega) (by omega)).at (by decide) (by decide)).fab
      · split
        · exact (LU hR).fab
        · have:=Au (w:=s.word) (room:=s.slots.length)
          exact (hR.ends this.1 this.2 (by decide) (by decide)).fab
    · unfold vN; split
      · exact ((hR.sl Sw (Zf h.slot)).at (by decide) (by decide)).fab
      · exact h
    · unfold rC
      have hw:Rn (cK s (jQ s.word s.slots.length).1) id:=hR.wd (by rw [hl]; exact Tg h.word)
      have:=Au (w:=s.word) (room:=s.slots.length)
      simp only []; split
      · exact (hw.rtell (by decide) (by decide) (by decide) (by decide)).fab
      · split
        · exact (hw.at (by decide) (by decide)).fab
        · exact (hw.ends this.1 this.2 (by decide) (by decide)).fab
    · exact ((hR.seen Pp.1 Pp.2).at (by decide) (by decide)).fab
    · unfold rE; simp only []
      have hn:=IV h.empty h.el
      have he:=hR.em hn.2 hn.1
      split
      · exact (he.wake.at (by decide) (by decide)).fab
      · exact (he.at (by decide) (by decide)).fab
    · unfold vK; split <;> exact (hR.at (by decide) (by decide)).fab
    · unfold rD; split
      · exact (hR.at (by decide) (by decide)).fab
      · simp only []
        have hn:=Zv (seen:=(me s id).seen) h.full h.fl hR.lo (by have:=h.thl; have:=hR.hi; omega)
        have he:=hR.fu hn.2 hn.1
        split
        · exact he.fab.put (Ov (Zj hR.tc hR.run (by decide) (by decide)) (by decide) (by decide))
        · exact (he.at (by decide) (by decide)).fab
    · unfold Cs
      exact (hR.sd (sI h.sends)).fab.put (Hb hR.tc)
    · unfold vL; simp only []
      have hw:Rn (cK s (rJ s.word s.slots.length (me s id).reg).1) id:=hR.wd (by rw [hl]; exact Zz h.word)
      split
      · exact (hw.at (by decide) (by decide)).fab
      · exact (hw.rtell (by decide) (by decide) (by decide) (by decide)).fab
    · unfold nV; split
      · exact ((hR.sl Fc (Cu h.slot)).at (by decide) (by decide)).fab
      · exact (hR.at (by decide) (by decide)).fab
    · exact h

def Fp (s u:State):Prop:=(∃ w,u=cK s w)∨(∃ i x,u=cR s (s.slots.set i x))∨(∃ l,u=eJ s l)∨(∃ l,u=eI s l)∨(∃ e,u=cQ s e)∨(∃ e,u=cH s e)
def NF (s a:State) (id:Int):Prop:=a=s∨∃ u t,Fp s u∧(a=dD u id t∨(∃ e,a=logged (dD u id t) e)∨(∃ j,a=dD (cM u j) id t))
theorem nZ (s:State):Fp s s:=.inl ⟨s.word,rfl⟩
theorem oA (s:State) (w:Word):Fp s (cK s w):=.inl ⟨w,rfl⟩
theorem Fg (s:State) (l:List Int):Fp s (eJ s l):=.inr (.inr (.inl ⟨l,rfl⟩))
theorem Ff (s:State) (l:List Int):Fp s (eI s l):=.inr (.inr (.inr (.inl ⟨l,rfl⟩)))
theorem tF (s:State) (e:Event):Fp s (cQ s e):=.inr (.inr (.inr (.inr (.inl ⟨e,rfl⟩))))
theorem pS (s:State) (e:Event):Fp s (cH s e):=.inr (.inr (.inr (.inr (.inr ⟨e,rfl⟩))))
theorem tZ (l:List Slot):∃ i x,l=l.set i x:=⟨l.length,default,by rw [List.set_eq_of_length_le (Nat.le_refl _)]⟩
theorem Tc (s:State) (p v:Int):Fp s (cR s (gO s.slots p v).1):=by
  refine .inr (.inl ?_)
  unfold gO; split
  · obtain ⟨i,x,h⟩:=tZ s.slots; exact ⟨i,x,by rw [← h]⟩
  · split
    · obtain ⟨i,x,h⟩:=tZ s.slots; exact ⟨i,x,by rw [← h]⟩
    · exact ⟨_,_,rfl⟩
theorem zP (s:State) (p:Int):Fp s (cR s (eY s.slots p).1):=by
  refine .inr (.inl ?_)
  unfold eY; split
  · obtain ⟨i,x,h⟩:=tZ s.slots; exact ⟨i,x,by rw [← h]⟩
  · split
    · obtain ⟨i,x,h⟩:=tZ s.slots; exact ⟨i,x,by rw [← h]⟩
    · exact ⟨_,_,rfl⟩
theorem GJ (s:State) (id:Int) (t t':Thread):dD (dD s id t) id t'=dD s id t':=by
  unfold dD; simp [d7]
theorem NF.refl (s:State) (id:Int):NF s s id:=.inl rfl
theorem NF.put {s u:State} {id:Int} {t:Thread} (h:Fp s u):NF s (dD u id t) id:=.inr ⟨u,t,h,.inl rfl⟩
theorem NF.put2 {s u:State} {id:Int} {t t':Thread} (h:Fp s u):NF s (dD (dD u id t) id t') id:=by rw [GJ]; exact .put h
theorem NF.at {s u:State} {id pc:Int} (h:Fp s u):NF s (kM u id pc) id:=.put h
theorem NF.at2 {s u:State} {id pc:Int} {t:Thread} (h:Fp s u):NF s (kM (dD u id t) id pc) id:=.put2 h
theorem NF.tell {s u:State} {id k r g pc:Int} (h:Fp s u):NF s (gD u id k r g pc) id:=by
  unfold gD eO; split
  · refine .inr ⟨u,iD (me (logged (dD u id (nY (me u id) k r g)) ⟨id,k,(me u id).val,r,g⟩) id) pc,h,.inr (.inl ⟨⟨id,k,(me u id).val,r,g⟩,?_⟩)⟩
    unfold kM logged dD; simp [d7]
  · exact .at h
theorem NF.ends {s u:State} {id r pc:Int} (h:Fp s u):NF s (fZ u id r pc) id:=.tell h
theorem NF.on {s u:State} {id:Int} (h:Fp s u):NF s (vI u id) id:=.put h
theorem NF.wake {s u:State} {id j pc:Int} (h:Fp s u):NF s (kM (cM u j) id pc) id:=.inr ⟨u,_,h,.inr (.inr ⟨j,rfl⟩)⟩
theorem GB {s:State} {id:Int}:NF s (Cr s id) id:=by
  have h0:=nZ s
  unfold Cr; split
  · exact .ends h0
  · split
    · exact .at2 h0
    · split
      · exact .ends h0
      · split
        · exact .ends h0
        · split
          · exact .at h0
          · exact .on h0
theorem WV {s:State} {id:Int}:NF s (oQ s id) id:=by
  have h0:=nZ s
  unfold oQ
  split
  · exact .refl s id
  · split
    · exact .at (Fg s _)
    · unfold vM; split
      · exact .at h0
      · split
        · exact .ends h0
        · exact .on h0
    · unfold Ct; split
      · exact .at2 h0
      · split
        · exact GB
        · exact .ends h0
    · unfold vN; split
      · exact .at (Tc s _ _)
      · exact .refl s id
    · unfold rC; simp only []; split
      · exact .tell (oA s _)
      · split
        · exact .at (oA s _)
        · exact .ends (oA s _)
    · exact .at2 h0
    · unfold rE; simp only []; split
      · exact .wake (pS s _)
      · exact .at (pS s _)
    · unfold vK; split <;> exact .at h0
    · unfold rD; split
      · exact .at h0
      · simp only []; split
        · exact .put (tF s _)
        · exact .at (tF s _)
    · exact .put (Fg s _)
    · unfold vL; simp only []; split
      · exact .at (oA s _)
      · exact .tell (oA s _)
    · unfold nV; split
      · exact .at (zP s _)
      · exact .at h0
    · exact .refl s id

def uE (a b:List Slot):Nat→Nat
  | 0=>0
  | n+1=>uE a b n+(if a.getD n default=b.getD n default then 0 else 1)
def fY (a b:State):Int:=(if a.word=b.word then 0 else 1)+(uE a.slots b.slots (min a.slots.length b.slots.length):Nat)+(if a.sends=b.sends then 0 else 1)+(if a.recvs=b.recvs then 0 else 1) +
  (if a.full=b.full then 0 else 1)+(if a.empty=b.empty then 0 else 1)
theorem xP (a:List Slot):∀ n,uE a a n=0
  | 0=>rfl
  | n+1=>by simp [uE,xP a n]
theorem Hu (a:List Slot) (i:Nat) (x:Slot):∀ n,uE a (a.set i x) n≤if i<n then 1 else 0
  | 0=>by simp [uE]
  | n + 1=>by
    have ih:=Hu a i x n
    simp only [uE]
    by_cases h:i=n
    · subst h
      rw [if_neg (Nat.lt_irrefl _)] at ih
      rw [if_pos (Nat.lt_succ_self _)]
      split <;> omega
    · have:(a.set i x).getD n default=a.getD n default:=by rw [Bw,if_neg (fun e=>h e.1)]
      rw [this]
      simp only [if_true,Nat.add_zero]
      refine Nat.le_trans ih ?_
      by_cases c:i<n
      · rw [if_pos c,if_pos (by omega)]; exact Nat.le_refl 1
      · rw [if_neg c]; exact Nat.zero_le _
theorem Is (p:Prop) [Decidable p]:(if p then (0:Int) else 1)≤1:=by split <;> omega
theorem jE {s u:State} (h:Fp s u):fY s u≤1:=by
  have h0:=xP s.slots (min s.slots.length s.slots.length)
  rcases h with ⟨w,rfl⟩ | ⟨i,x,rfl⟩ | ⟨l,rfl⟩ | ⟨l,rfl⟩ | ⟨e,rfl⟩ | ⟨e,rfl⟩
  · have:=Is (s.word=w)
    simp only [fY,cK,if_true,h0]; omega
  · have:=Hu s.slots i x (min s.slots.length (s.slots.set i x).length)
    simp only [fY,cR,if_true]; split at this <;> omega
  · have:=Is (s.sends=l)
    simp only [fY,eJ,if_true,h0]; omega
  · have:=Is (s.recvs=l)
    simp only [fY,eI,if_true,h0]; omega
  · have:=Is (s.full=e)
    simp only [fY,cQ,if_true,h0]; omega
  · have:=Is (s.empty=e)
    simp only [fY,cH,if_true,h0]; omega
theorem kO {s u:State} {id:Int} {t:Thread}:fY s (dD u id t)=fY s u:=rfl
theorem Mb {s u:State} {e:Entry}:fY s (logged u e)=fY s u:=rfl
theorem zO {s u:State} {j:Int}:fY s (cM u j)=fY s u:=by unfold cM; split <;> rfl
theorem Et {s a:State} {id:Int} (h:NF s a id):fY s a≤1:=by
  rcases h with rfl | ⟨u,t,hu,rfl | ⟨e,rfl⟩ | ⟨j,rfl⟩⟩
  · exact jE (nZ a)
  · rw [kO]; exact jE hu
  · rw [Mb,kO]; exact jE hu
  · rw [kO,zO]; exact jE hu

def QI (t:Thread):Thread:=⟨1,t.kind,t.val,t.untl,t.pc,t.reg,t.seen,t.tries,t.late,t.res,t.got⟩
end Go.Sak
