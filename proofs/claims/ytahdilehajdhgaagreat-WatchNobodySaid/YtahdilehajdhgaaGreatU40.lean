/- Part U40 of the proofs about the program: Pl, Pn. Conditions: none. -/
import Derived.Test.YtahdilehajdhgaaGreatU03
open Bool renaming and_eq_true→Zq,or_eq_true→AZ
namespace Go.Sak
open Go Go.RowKit
set_option linter.unusedVariables false
set_option linter.unusedSimpArgs false

structure Fab (s:State):Prop where
  room:cP s.cfg≠0
  word:eX s.word (cP s.cfg)=true
  len:(s.slots.length:Int)=cP s.cfg
  slot:dC s.slots=true
  sends:cN s.cfg.th s.sends=true
  recvs:cN s.cfg.th s.recvs=true
  fl:cN s.cfg.th s.full.ln=true
  el:cN s.cfg.th s.empty.ln=true
  full:kW s.full=true
  empty:kW s.empty=true
  now0:0≤s.now
  now1:s.now≤1099511627776
  thl:(s.threads.length:Int)=s.cfg.th
  thr:∀ t,t∈s.threads→bK t=true
theorem sG {s:State}:eJ s=true↔Fab s:=by
  have ha:s.threads.any (fun t=>!bK t)=false↔∀ t,t∈s.threads→bK t=true:=by simp [List.any_eq_false]
  simp only [eJ,Zq,decide_eq_true_eq,Bool.not_eq_true',ha]
  constructor
  · rintro ⟨⟨⟨⟨⟨⟨⟨⟨⟨⟨⟨⟨⟨a,b⟩,c⟩,d⟩,e⟩,f⟩,g⟩,h⟩,i⟩,j⟩,k⟩,l⟩,m⟩,n⟩
    exact ⟨a,b,c,d,e,f,g,h,i,j,k,l,m,n⟩
  · rintro ⟨a,b,c,d,e,f,g,h,i,j,k,l,m,n⟩
    exact ⟨⟨⟨⟨⟨⟨⟨⟨⟨⟨⟨⟨⟨a,b⟩,c⟩,d⟩,e⟩,f⟩,g⟩,h⟩,i⟩,j⟩,k⟩,l⟩,m⟩,n⟩
theorem Fab.put {s:State} {id:Int} {t:Thread} (h:Fab s) (ht:bK t=true):Fab (iV s id t) :=
  ⟨h.room,h.word,h.len,h.slot,h.sends,h.recvs,h.fl,h.el,h.full,h.empty,h.now0,h.now1,by simp only [iV,List.length_set]; exact h.thl,fun x hx=>by
    rcases List.mem_or_eq_of_mem_set hx with hx | rfl
    · exact h.thr x hx
    · exact ht⟩
theorem Fab.logged {s:State} {e:Entry} (h:Fab s):Fab (logged s e):=⟨h.room,h.word,h.len,h.slot,h.sends,h.recvs,h.fl,h.el,h.full,h.empty,h.now0,h.now1,h.thl,h.thr⟩
theorem Fab.sl {s:State} {l:List Slot} (h:Fab s) (h1:l.length=s.slots.length) (h2:dC l=true):Fab (iT s l):=⟨h.room,h.word,by simp only [iT,h1]; exact h.len,h2,h.sends,h.recvs,h.fl,h.el,h.full,h.empty,h.now0,h.now1,h.thl,h.thr⟩
theorem Fab.sd {s:State} {l:List Int} (h:Fab s) (h1:cN s.cfg.th l=true):Fab (kX s l):=⟨h.room,h.word,h.len,h.slot,h1,h.recvs,h.fl,h.el,h.full,h.empty,h.now0,h.now1,h.thl,h.thr⟩
theorem Iu {t:Thread} {pc:Int} (h:bK t=true) (hr:t.st=1) (h0:0≤pc) (h1:pc≤11):bK (xJ t pc)=true:=by
  simp only [bK,lG,lH,gL,xJ,aS,Zq,AZ,decide_eq_true_eq] at *; grind
theorem Cs {t:Thread} {x:Int} (h:bK t=true) (hr:t.st=1) (h0:0≤x) (h1:x≤1099511627776):bK (rU t x)=true:=by
  simp only [bK,lG,lH,gL,rU,aS,Zq,AZ,decide_eq_true_eq] at *; grind
theorem Aq {t:Thread} {x:Int} (h:bK t=true) (hr:t.st=1) (h0:-1≤x) (h1:x≤1099511627776):bK (oR t x)=true:=by
  simp only [bK,lG,lH,gL,oR,aS,Zq,AZ,decide_eq_true_eq] at *; grind
theorem xL {t:Thread} {x:Int} (h:bK t=true) (hr:t.st=1) (h0:0≤x) (h1:x≤1099511627776):bK (mN t x)=true:=by
  simp only [bK,lG,lH,gL,mN,aS,Zq,AZ,decide_eq_true_eq] at *; grind
structure Rn (s:State) (id:Int):Prop where
  fab:Fab s
  lo:0≤id
  hi:id<s.threads.length
  run:(me s id).st=1
theorem Ci {s:State} {id:Int} {t:Thread} (h0:0≤id) (h1:id<s.threads.length):me (iV s id t) id=t:=by
  unfold me iV
  have:id.toNat<s.threads.length:=by omega
  simp [List.getD_eq_getElem?_getD,List.getElem?_set,this]
theorem Rn.tc {s:State} {id:Int} (h:Rn s id):bK (me s id)=true:=h.fab.thr _ (by
  unfold me
  have:=h.lo; have:=h.hi
  exact cT (by omega))
theorem Rn.is {s:State} {id:Int} (h:Rn s id):wH s id=true:=by
  simp only [wH,Zq,decide_eq_true_eq]; exact ⟨⟨sG.2 h.fab,h.lo⟩,h.hi⟩
theorem Rn.put {s:State} {id:Int} {t:Thread} (h:Rn s id) (ht:bK t=true) (hr:t.st=1):Rn (iV s id t) id :=
  ⟨h.fab.put ht,h.lo,by simp only [iV,List.length_set]; exact h.hi,by rw [Ci h.lo h.hi]; exact hr⟩
theorem Rn.at {s:State} {id pc:Int} (h:Rn s id) (h0:0≤pc) (h1:pc≤11):Rn (Uu s id pc) id:=h.put (Iu h.tc h.run h0 h1) h.run
theorem Iy {t:Thread} (h:bK t=true):0≤t.pc∧t.pc≤11∧0≤t.tries∧t.tries≤1099511627776∧0≤t.reg∧t.reg≤1099511627776∧-1≤t.seen∧t.seen≤1099511627776:=by
  simp only [bK,gL,aS,Zq,decide_eq_true_eq] at h; omega
theorem Rn.on {s:State} {id:Int} (h:Rn s id):Rn (Uv s id) id:=by
  have:=Iy h.tc
  exact h.put (xL h.tc h.run (by omega) (by omega)) h.run
theorem Rn.reg {s:State} {id x:Int} (h:Rn s id) (h0:0≤x) (h1:x≤1099511627776):Rn (iV s id (rU (me s id) x)) id:=h.put (Cs h.tc h.run h0 h1) h.run
theorem Rn.seen {s:State} {id x:Int} (h:Rn s id) (h0:-1≤x) (h1:x≤1099511627776):Rn (iV s id (oR (me s id) x)) id:=h.put (Aq h.tc h.run h0 h1) h.run
theorem Rn.sl {s:State} {id:Int} {l:List Slot} (h:Rn s id) (h1:l.length=s.slots.length) (h2:dC l=true):Rn (iT s l) id:=⟨h.fab.sl h1 h2,h.lo,h.hi,h.run⟩
theorem Rn.sd {s:State} {id:Int} {l:List Int} (h:Rn s id) (h1:cN s.cfg.th l=true):Rn (kX s l) id:=⟨h.fab.sd h1,h.lo,h.hi,h.run⟩

def Kw (s u:State):Prop:=(∃ w,u=xQ s w)∨(∃ i x,u=iT s (s.slots.set i x))∨(∃ l,u=kX s l)∨(∃ l,u=uQ s l)∨(∃ e,u=xP s e)∨(∃ e,u=uP s e)
def NF (s a:State) (id:Int):Prop:=a=s∨∃ u t,Kw s u∧(a=iV u id t∨(∃ e,a=logged (iV u id t) e)∨(∃ j,a=iV (Aa u j) id t))
theorem NF.refl (s:State) (id:Int):NF s s id:=.inl rfl
theorem NF.put {s u:State} {id:Int} {t:Thread} (h:Kw s u):NF s (iV u id t) id:=.inr ⟨u,t,h,.inl rfl⟩
theorem NF.at {s u:State} {id pc:Int} (h:Kw s u):NF s (Uu u id pc) id:=.put h
theorem NF.on {s u:State} {id:Int} (h:Kw s u):NF s (Uv u id) id:=.put h
def Ip (t:Thread):Thread:=⟨1,t.kind,t.val,t.untl,t.pc,t.reg,t.seen,t.tries,t.late,t.res,t.got⟩
end Go.Sak
