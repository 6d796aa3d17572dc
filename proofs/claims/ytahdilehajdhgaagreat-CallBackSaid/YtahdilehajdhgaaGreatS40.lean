/- Part S40 of the proofs about the program: Pl, Pn. Conditions: none. -/
import Derived.Test.YtahdilehajdhgaaGreatS03
namespace Go.Sak
open Go Go.RowKit
set_option linter.unusedVariables false
set_option linter.unusedSimpArgs false

theorem any_mem {x:Int} {l:List Int}:l.any (fun y=>decide (x=y))=true↔x∈l:=by simp
theorem lU_nodup:∀ (l out:List Int),(lU out l).length=out.length+l.length↔(∀ x,x∈l→x∉out)∧l.Nodup
  | [],out=>by simp [lU]
  | x :: xs,out=>by
    simp only [lU]
    by_cases h:x∈out
    · rw [if_pos (any_mem.2 h)]
      have:=lU_len xs out
      constructor
      · intro e; simp at e; omega
      · intro e; exact absurd h (e.1 x (by simp))
    · rw [if_neg (fun e=>h (any_mem.1 e))]
      have:=lU_nodup xs (out ++ [x])
      simp only [List.length_append,List.length_cons,List.length_nil,List.mem_append,List.mem_cons,List.not_mem_nil,or_false,not_or,List.nodup_cons] at this ⊢
      rw [show out.length+(xs.length+1)=out.length+(0+1)+xs.length from by omega,this]
      constructor
      · rintro ⟨h1,h2⟩
        refine ⟨fun y hy=>?_,fun hx=>(h1 x hx).2 rfl,h2⟩
        rcases hy with rfl | hy
        · exact h
        · exact (h1 y hy).1
      · rintro ⟨h1,h2,h3⟩
        exact ⟨fun y hy=>⟨h1 y (.inr hy),fun e=>h2 (e ▸ hy)⟩,h3⟩
theorem lCheck_iff {l:List Int}:lCheck l=true↔l.Nodup∧∀ x,x∈l→0≤x∧x<16:=by
  simp only [lCheck,Bool.and_eq_true,decide_eq_true_eq,Bool.not_eq_true',List.any_eq_false,lWrong,Bool.or_eq_true,not_or]
  have:=lU_nodup l []
  simp only [List.length_nil,Nat.zero_add,List.not_mem_nil,not_false_eq_true,implies_true,true_and] at this
  rw [this]
  constructor
  · rintro ⟨h1,h2⟩; exact ⟨h2,fun x hx=>by have:=h1 x hx; omega⟩
  · rintro ⟨h1,h2⟩; exact ⟨fun x hx=>by have:=h2 x hx; omega,h1⟩
theorem among_iff {n:Int} {l:List Int}:amongOk n l=true↔l.Nodup∧∀ x,x∈l→0≤x∧x<16∧x<n:=by
  simp only [amongOk,Bool.and_eq_true,lCheck_iff,Bool.not_eq_true',List.any_eq_false,Bool.or_eq_true,decide_eq_true_eq,not_or]
  constructor
  · rintro ⟨⟨h1,h2⟩,h3⟩; exact ⟨h1,fun x hx=>by have:=h2 x hx; have:=h3 x hx; omega⟩
  · rintro ⟨h1,h2⟩; exact ⟨⟨h1,fun x hx=>by have:=h2 x hx; omega⟩,fun x hx=>by have:=h2 x hx; omega⟩
theorem among_sub {n:Int} {l k:List Int} (h:amongOk n l=true) (hs:k.Sublist l):amongOk n k=true:=by
  rw [among_iff] at h ⊢
  exact ⟨h.1.sublist hs,fun x hx=>h.2 x (hs.subset hx)⟩
theorem lCheck_sub {l k:List Int} (h:lCheck l=true) (hs:k.Sublist l):lCheck k=true:=by
  rw [lCheck_iff] at h ⊢
  exact ⟨h.1.sublist hs,fun x hx=>h.2 x (hs.subset hx)⟩
theorem among_leave {n:Int} {l:List Int} {id:Int} (h:amongOk n l=true):amongOk n (lLeave l id).1=true:=by
  unfold lLeave; split
  · exact h
  · exact among_sub h (List.eraseIdx_sublist ..)

structure Fab (s:State):Prop where
  room:confRoom s.cfg≠0
  word:posCheck s.word (confRoom s.cfg)=true
  len:(s.slots.length:Int)=confRoom s.cfg
  slot:slotCheck s.slots=true
  sends:amongOk s.cfg.th s.sends=true
  recvs:amongOk s.cfg.th s.recvs=true
  fl:amongOk s.cfg.th s.full.ln=true
  el:amongOk s.cfg.th s.empty.ln=true
  full:vCheck s.full=true
  empty:vCheck s.empty=true
  now0:0≤s.now
  now1:s.now≤1099511627776
  thl:(s.threads.length:Int)=s.cfg.th
  thr:∀ t,t∈s.threads→tCheck t=true
theorem fab_iff {s:State}:fabCheck s=true↔Fab s:=by
  have ha:s.threads.any (fun t=>!tCheck t)=false↔∀ t,t∈s.threads→tCheck t=true:=by simp [List.any_eq_false]
  simp only [fabCheck,Bool.and_eq_true,decide_eq_true_eq,Bool.not_eq_true',ha]
  constructor
  · rintro ⟨⟨⟨⟨⟨⟨⟨⟨⟨⟨⟨⟨⟨a,b⟩,c⟩,d⟩,e⟩,f⟩,g⟩,h⟩,i⟩,j⟩,k⟩,l⟩,m⟩,n⟩
    exact ⟨a,b,c,d,e,f,g,h,i,j,k,l,m,n⟩
  · rintro ⟨a,b,c,d,e,f,g,h,i,j,k,l,m,n⟩
    exact ⟨⟨⟨⟨⟨⟨⟨⟨⟨⟨⟨⟨⟨a,b⟩,c⟩,d⟩,e⟩,f⟩,g⟩,h⟩,i⟩,j⟩,k⟩,l⟩,m⟩,n⟩
theorem Fab.put {s:State} {id:Int} {t:Thread} (h:Fab s) (ht:tCheck t=true):Fab (put1 s id t) :=
  ⟨h.room,h.word,h.len,h.slot,h.sends,h.recvs,h.fl,h.el,h.full,h.empty,h.now0,h.now1,by simp only [put1,List.length_set]; exact h.thl,fun x hx=>by
    rcases List.mem_or_eq_of_mem_set hx with hx | rfl
    · exact h.thr x hx
    · exact ht⟩
theorem Fab.logged {s:State} {e:Entry} (h:Fab s):Fab (logged s e):=⟨h.room,h.word,h.len,h.slot,h.sends,h.recvs,h.fl,h.el,h.full,h.empty,h.now0,h.now1,h.thl,h.thr⟩
theorem Fab.sl {s:State} {l:List Slot} (h:Fab s) (h1:l.length=s.slots.length) (h2:slotCheck l=true):Fab (withSlots s l):=⟨h.room,h.word,by simp only [withSlots,h1]; exact h.len,h2,h.sends,h.recvs,h.fl,h.el,h.full,h.empty,h.now0,h.now1,h.thl,h.thr⟩
theorem Fab.fu {s:State} {e:Event} (h:Fab s) (h1:amongOk s.cfg.th e.ln=true) (h2:vCheck e=true):Fab (withFull s e):=⟨h.room,h.word,h.len,h.slot,h.sends,h.recvs,h1,h.el,h2,h.empty,h.now0,h.now1,h.thl,h.thr⟩
theorem Fab.em {s:State} {e:Event} (h:Fab s) (h1:amongOk s.cfg.th e.ln=true) (h2:vCheck e=true):Fab (withEmpty s e):=⟨h.room,h.word,h.len,h.slot,h.sends,h.recvs,h.fl,h1,h.full,h2,h.now0,h.now1,h.thl,h.thr⟩

theorem tc_pc {t:Thread} {pc:Int} (h:tCheck t=true) (hr:t.st=1) (h0:0≤pc) (h1:pc≤11):tCheck (setPc t pc)=true:=by
  simp only [tCheck,tKind,tTime,tPlace,setPc,within,Bool.and_eq_true,Bool.or_eq_true,decide_eq_true_eq] at *; grind
theorem tc_reg {t:Thread} {x:Int} (h:tCheck t=true) (hr:t.st=1) (h0:0≤x) (h1:x≤1099511627776):tCheck (setReg t x)=true:=by
  simp only [tCheck,tKind,tTime,tPlace,setReg,within,Bool.and_eq_true,Bool.or_eq_true,decide_eq_true_eq] at *; grind
theorem tc_seen {t:Thread} {x:Int} (h:tCheck t=true) (hr:t.st=1) (h0:-1≤x) (h1:x≤1099511627776):tCheck (setSeen t x)=true:=by
  simp only [tCheck,tKind,tTime,tPlace,setSeen,within,Bool.and_eq_true,Bool.or_eq_true,decide_eq_true_eq] at *; grind
theorem tc_tries {t:Thread} {x:Int} (h:tCheck t=true) (hr:t.st=1) (h0:0≤x) (h1:x≤1099511627776):tCheck (setTries t x)=true:=by
  simp only [tCheck,tKind,tTime,tPlace,setTries,within,Bool.and_eq_true,Bool.or_eq_true,decide_eq_true_eq] at *; grind
theorem tc_wake {t:Thread} (h:tCheck t=true):tCheck (tWake t)=true:=by
  unfold tWake; split
  · simp only [tCheck,tKind,tTime,tPlace,within,Bool.and_eq_true,Bool.or_eq_true,decide_eq_true_eq] at *; grind
  · exact h
structure Rn (s:State) (id:Int):Prop where
  fab:Fab s
  lo:0≤id
  hi:id<s.threads.length
  run:(me s id).st=1
theorem me_put {s:State} {id:Int} {t:Thread} (h0:0≤id) (h1:id<s.threads.length):me (put1 s id t) id=t:=by
  unfold me put1
  have:id.toNat<s.threads.length:=by omega
  simp [List.getD_eq_getElem?_getD,List.getElem?_set,this]
theorem Rn.tc {s:State} {id:Int} (h:Rn s id):tCheck (me s id)=true:=h.fab.thr _ (by
  unfold me
  have:=h.lo; have:=h.hi
  exact getD_mem (by omega))
theorem Rn.is {s:State} {id:Int} (h:Rn s id):fabIs s id=true:=by
  simp only [fabIs,Bool.and_eq_true,decide_eq_true_eq]; exact ⟨⟨fab_iff.2 h.fab,h.lo⟩,h.hi⟩
theorem Rn.put {s:State} {id:Int} {t:Thread} (h:Rn s id) (ht:tCheck t=true) (hr:t.st=1):Rn (put1 s id t) id :=
  ⟨h.fab.put ht,h.lo,by simp only [put1,List.length_set]; exact h.hi,by rw [me_put h.lo h.hi]; exact hr⟩
theorem Rn.at {s:State} {id pc:Int} (h:Rn s id) (h0:0≤pc) (h1:pc≤11):Rn (rAt s id pc) id:=h.put (tc_pc h.tc h.run h0 h1) h.run
theorem tp_of {t:Thread} (h:tCheck t=true):0≤t.pc∧t.pc≤11∧0≤t.tries∧t.tries≤1099511627776∧0≤t.reg∧t.reg≤1099511627776∧-1≤t.seen∧t.seen≤1099511627776:=by
  simp only [tCheck,tPlace,within,Bool.and_eq_true,decide_eq_true_eq] at h; omega
theorem Rn.on {s:State} {id:Int} (h:Rn s id):Rn (rOn s id) id:=by
  have:=tp_of h.tc
  exact h.put (tc_tries h.tc h.run (by omega) (by omega)) h.run
theorem Rn.reg {s:State} {id x:Int} (h:Rn s id) (h0:0≤x) (h1:x≤1099511627776):Rn (put1 s id (setReg (me s id) x)) id:=h.put (tc_reg h.tc h.run h0 h1) h.run
theorem Rn.seen {s:State} {id x:Int} (h:Rn s id) (h0:-1≤x) (h1:x≤1099511627776):Rn (put1 s id (setSeen (me s id) x)) id:=h.put (tc_seen h.tc h.run h0 h1) h.run
theorem Rn.sl {s:State} {id:Int} {l:List Slot} (h:Rn s id) (h1:l.length=s.slots.length) (h2:slotCheck l=true):Rn (withSlots s l) id:=⟨h.fab.sl h1 h2,h.lo,h.hi,h.run⟩
theorem Rn.fu {s:State} {id:Int} {e:Event} (h:Rn s id) (h1:amongOk s.cfg.th e.ln=true) (h2:vCheck e=true):Rn (withFull s e) id:=⟨h.fab.fu h1 h2,h.lo,h.hi,h.run⟩
theorem Rn.em {s:State} {id:Int} {e:Event} (h:Rn s id) (h1:amongOk s.cfg.th e.ln=true) (h2:vCheck e=true):Rn (withEmpty s e) id:=⟨h.fab.em h1 h2,h.lo,h.hi,h.run⟩

def Upd (s u:State):Prop:=(∃ w,u=withWord s w)∨(∃ i x,u=withSlots s (s.slots.set i x))∨(∃ l,u=withSends s l)∨(∃ l,u=withRecvs s l)∨(∃ e,u=withFull s e)∨(∃ e,u=withEmpty s e)
def NF (s a:State) (id:Int):Prop:=a=s∨∃ u t,Upd s u∧(a=put1 u id t∨(∃ e,a=logged (put1 u id t) e)∨(∃ j,a=put1 (fabWake u j) id t))
theorem NF.refl (s:State) (id:Int):NF s s id:=.inl rfl
theorem NF.put {s u:State} {id:Int} {t:Thread} (h:Upd s u):NF s (put1 u id t) id:=.inr ⟨u,t,h,.inl rfl⟩
theorem NF.at {s u:State} {id pc:Int} (h:Upd s u):NF s (rAt u id pc) id:=.put h
theorem NF.on {s u:State} {id:Int} (h:Upd s u):NF s (rOn u id) id:=.put h
def run1 (t:Thread):Thread:=⟨1,t.kind,t.val,t.untl,t.pc,t.reg,t.seen,t.tries,t.late,t.res,t.got⟩
end Go.Sak
