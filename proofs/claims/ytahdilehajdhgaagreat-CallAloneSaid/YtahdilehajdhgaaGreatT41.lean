/- Part T41 of the proofs about the program: Xr, Pr, Xs, Ps. Conditions: none. -/
import Derived.Test.YtahdilehajdhgaaGreatT40
open Bool renaming and_eq_true→E0
namespace Go.Sak
open Go Go.RowKit
set_option linter.unusedVariables false
set_option linter.unusedSimpArgs false

def kL (t:Thread) (got:Int):Thread:=⟨t.st,t.kind,t.val,t.untl,t.pc,t.reg,t.seen,t.tries,t.late,t.res,got⟩
def Gq (s:State) (id:Int):State:=kN (eI s (iD s.recvs id).1) id 1
def uZ (s:State) (id:Int):State:=if gZ s.recvs id=0 then kN s id 2 else if (me s id).late then fZ s id 5 9 else vJ s id
def Bw (s:State) (id:Int):State :=
  if (me s id).kind=5 then fZ s id 4 9 else if (me s id).late then fZ s id 5 9 else if tJ s.cfg (me s id).tries=2 then kN s id 5 else vJ s id
def Bu (s:State) (id:Int):State :=
  if (tI s.word s.slots.length).2=1 then kN s id 3 else if (tI s.word s.slots.length).2=4 then Bw s id else fZ s id (tI s.word s.slots.length).2 9
def Bv (s:State) (id:Int):State :=
  let r:=kH s.word s.slots.length
  if r.2.2=1 then gE (dD (cK s r.1) id (fB (me s id) r.2.1)) id (me s id).kind 1 (sQ s r.2.1) 4 else if r.2.2=4 then kN s id 2 else fZ s id r.2.2 9
def Ej (s:State) (id:Int):State :=
  kN (cR (dD s id (kL (me s id) (tE s.slots (me s id).reg).1)) (eY s.slots (me s id).reg).1) id 6
def wR (s:State) (id:Int):State:=kN (dD s id (eP (me s id) (oD s.empty))) id 7
def qS (s:State) (id:Int):State :=
  let r:=fI s.full
  kN (if r.2.2 then cM (cQ s r.1) r.2.1 else cQ s r.1) id 9
def uY (s:State) (id:Int):State:=if (tI s.word s.slots.length).2=4∧¬ (me s id).late then kN s id 8 else kN s id 2
def qQ (s:State) (id:Int):State :=
  if (me s id).late then kN s id 2 else
    let r:=kG s.empty (me s id).seen id
    if r.2.1 then dD (cH s r.1) id (Cx (iE (me s id) 2) 2).1 else kN (cH s r.1) id 2
def qR (s:State) (id:Int):State:=dD (eI s (iY s.recvs id).1) id (xH (me s id)).1
def nJ (s:State) (id:Int):Bool:=cN s id && decide (kC (me s id)=0) && decide (kK (me s id).kind=2)
def oM (s:State) (id:Int):State :=
  if ¬ nJ s id then s else match (me s id).pc.toNat with
    | 0=>Gq s id
    | 1=>uZ s id
    | 2=>Bu s id
    | 3=>Bv s id
    | 4=>Ej s id
    | 5=>wR s id
    | 6=>qS s id
    | 7=>uY s id
    | 8=>qQ s id
    | _=>qR s id

theorem MA {t:Thread} {x:Int} (h:cZ t=true) (hr:t.st=1):cZ (kL t x)=true:=by
  simp only [cZ,nD,nF,jO,kL,cD,E0,Bool.or_eq_true,decide_eq_true_eq] at *; grind
theorem Rn.got {s:State} {id x:Int} (h:Rn s id):Rn (dD s id (kL (me s id) x)) id:=h.put (MA h.tc h.run) h.run
theorem Ov {w:Word} {room:Int} (h:cT w room=true):0≤(kH w room).2.1∧(kH w room).2.1≤1099511627776:=by
  simp only [cT,cD,E0,decide_eq_true_eq] at h
  unfold kH; split
  · simp
  · split
    · simp only []; omega
    · split <;> simp
theorem LA {s:State} {id:Int} (h:Rn s id):Rn (Bw s id) id:=by
  unfold Bw; split
  · exact h.ends (by decide) (by decide) (by decide) (by decide)
  · split
    · exact h.ends (by decide) (by decide) (by decide) (by decide)
    · split
      · exact h.at (by decide) (by decide)
      · exact h.on
theorem FD {s:State} {id:Int} (h:Fab s):Fab (oM s id):=by
  unfold oM
  split
  · exact h
  · rename_i hI
    simp only [Classical.not_not,nJ,E0,decide_eq_true_eq] at hI
    have hR:Rn s id:=Jr hI.1.1 hI.1.2
    have hb:=h.wb
    have hl:=h.len
    split
    · exact ((hR.rv (sI h.recvs hR.lo (by have:=h.thl; have:=hR.hi; omega))).at (by decide) (by decide)).fab
    · unfold uZ; split
      · exact (hR.at (by decide) (by decide)).fab
      · split
        · exact (hR.ends (by decide) (by decide) (by decide) (by decide)).fab
        · exact hR.on.fab
    · unfold Bu; split
      · exact (hR.at (by decide) (by decide)).fab
      · split
        · exact (LA hR).fab
        · have:=Jv (w:=s.word) (room:=s.slots.length)
          exact (hR.ends this.1 this.2 (by decide) (by decide)).fab
    · unfold Bv
      have hw:Rn (cK s (kH s.word s.slots.length).1) id:=hR.wd (by rw [hl]; exact Pt h.word)
      have ha:=Ov (w:=s.word) (room:=s.slots.length) (by rw [hl]; exact h.word)
      have:=Jv (w:=s.word) (room:=s.slots.length)
      simp only []; split
      · exact ((hw.reg ha.1 ha.2).rtell (by decide) (by decide) (by decide) (by decide)).fab
      · split
        · exact (hR.at (by decide) (by decide)).fab
        · exact (hR.ends this.1 this.2 (by decide) (by decide)).fab
    · unfold Ej
      exact ((hR.got.sl Fd (Cv h.slot)).at (by decide) (by decide)).fab
    · exact ((hR.seen Pq.1 Pq.2).at (by decide) (by decide)).fab
    · unfold qS; simp only []
      have hn:=IW h.full h.fl
      have he:=hR.fu hn.2 hn.1
      split
      · exact (he.wake.at (by decide) (by decide)).fab
      · exact (he.at (by decide) (by decide)).fab
    · unfold uY; split <;> exact (hR.at (by decide) (by decide)).fab
    · unfold qQ; split
      · exact (hR.at (by decide) (by decide)).fab
      · simp only []
        have hn:=Zw (seen:=(me s id).seen) h.empty h.el hR.lo (by have:=h.thl; have:=hR.hi; omega)
        have he:=hR.em hn.2 hn.1
        split
        · exact he.fab.put (Ow (Zk hR.tc hR.run (by decide) (by decide)) (by decide) (by decide))
        · exact (he.at (by decide) (by decide)).fab
    · unfold qR
      exact (hR.rv (sJ h.recvs)).fab.put (Hc hR.tc)
theorem GD {s:State} {id:Int}:NF s (Bw s id) id:=by
  have h0:=oA s
  unfold Bw; split
  · exact .ends h0
  · split
    · exact .ends h0
    · split
      · exact .at h0
      · exact .on h0
theorem NF.tell2 {s u:State} {id k r g pc:Int} {t:Thread} (h:Fq s u):NF s (gE (dD u id t) id k r g pc) id:=by
  unfold gE eO; split
  · refine .inr ⟨u,iE (me (logged (dD (dD u id t) id (nZ (me (dD u id t) id) k r g)) ⟨id,k,(me (dD u id t) id).val,r,g⟩) id) pc,h,.inr (.inl ⟨⟨id,k,(me (dD u id t) id).val,r,g⟩,?_⟩)⟩
    unfold kN logged dD; simp [List.set_set]
  · exact .at2 h
theorem WL {s:State} {id:Int}:NF s (oM s id) id:=by
  have h0:=oA s
  unfold oM
  split
  · exact .refl s id
  · split
    · exact .at (Fg s _)
    · unfold uZ; split
      · exact .at h0
      · split
        · exact .ends h0
        · exact .on h0
    · unfold Bu; split
      · exact .at h0
      · split
        · exact GD
        · exact .ends h0
    · unfold Bv; simp only []; split
      · exact .tell2 (oB s _)
      · split
        · exact .at h0
        · exact .ends h0
    · unfold Ej
      exact .at2 (zQ s _)
    · exact .at2 h0
    · unfold qS; simp only []; split
      · exact .wake (tG s _)
      · exact .at (tG s _)
    · unfold uY; split <;> exact .at h0
    · unfold qQ; split
      · exact .at h0
      · simp only []; split
        · exact .put (pT s _)
        · exact .at (pT s _)
    · exact .put (Fg s _)

def Ui (k:Int):Int:=if k=7 then 1 else if k=8 then 2 else 0
def oW (s:State) (l:List Int):State:=l.foldl cM s
def Hs (s:State) (id:Int):State:=gE (cK s (Dc s.word (Ui (me s id).kind))) id (me s id).kind 1 0 1
def Dx (s:State) (id:Int):State:=kN (oW (cQ s (dH s.full).1) (dH s.full).2) id 2
def xO (s:State) (id:Int):State :=
  let u:=oW (cH s (dH s.empty).1) (dH s.empty).2
  dD u id (xH (me u id)).1
def Hh (s:State) (id:Int):Bool:=cN s id && decide (kC (me s id)=0) && decide (kK (me s id).kind=3)
def lQ (s:State) (id:Int):State:=if ¬ Hh s id then s else if (me s id).pc=0 then Hs s id else if (me s id).pc=1 then Dx s id else xO s id
def oP (s:State) (id:Int):State:=if kK (me s id).kind=1 then oR s id else if kK (me s id).kind=2 then oM s id else lQ s id
def iV (s:State) (id:Int):State×Int :=
  if ¬ bZ s then (s,20) else if id<0∨id≥s.threads.length then (s,123) else if kC (me s id)≠0 then (s,kC (me s id)) else (oP s id,0)

def Wok (s a:State) (id:Int):Prop:=a.threads.length=s.threads.length∧∀ i:Nat,(i:Int)≠id→a.threads.getD i default=s.threads.getD i default∨((s.threads.getD i default).st=2∧a.threads.getD i default=QJ (s.threads.getD i default))
theorem Tg {s:State} {j:Int}:(cM s j).threads.length=s.threads.length:=by unfold cM; split <;> simp [dD]
theorem Wok.trans {a b c:State} {id:Int} (h:Wok a b id) (k:Wok b c id):Wok a c id:=by
  refine ⟨k.1.trans h.1,fun i hi=>?_⟩
  rcases h.2 i hi with h1 | ⟨h1,h2⟩ <;> rcases k.2 i hi with k1 | ⟨k1,k2⟩
  · exact .inl (k1.trans h1)
  · rw [h1] at k1 k2; exact .inr ⟨k1,k2⟩
  · exact .inr ⟨h1,k1.trans h2⟩
  · rw [h2] at k1; cases k1
theorem oF {s:State}:∀ (l:List Int) (u:State),fY s (oW u l)=fY s u
  | [],u=>rfl
  | j :: l,u=>(oF l (cM u j)).trans zP
theorem vT {id:Int}:∀ (l:List Int) (u:State),Rn u id→Rn (oW u l) id
  | [],u,h=>h
  | j :: l,u,h=>vT l (cM u j) h.wake
theorem Ke {w:Word} {m room:Int} (h:cT w room=true):cT (Dc w m) room=true:=by
  unfold Dc; split
  · simp only [cT,cD,E0,decide_eq_true_eq] at h ⊢
    have hl:iO ⟨w.h,w.t,if w.m<m then m else w.m⟩≤room:=by
      simp only [iO] at h ⊢
      split <;> (try split) <;> omega
    split <;> (split at hl <;> omega)
  · exact h
theorem IV {e:Event} {n:Int} (h:eZ e=true):eZ (dH e).1=true∧dG n (dH e).1.ln=true:=by
  have h':=tH.1 h
  unfold dH
  rw [if_neg (by simp [h])]
  refine ⟨tH.2 ⟨?_,?_,?_⟩,?_⟩
  · simp only []; omega
  · simp only []; omega
  · rfl
  · rfl
theorem DR {s:State} {id:Int} (h:Fab s):Fab (lQ s id):=by
  unfold lQ
  split
  · exact h
  · rename_i hI
    simp only [Classical.not_not,Hh,E0,decide_eq_true_eq] at hI
    have hR:Rn s id:=Jr hI.1.1 hI.1.2
    split
    · exact ((hR.wd (Ke h.word)).rtell (by decide) (by decide) (by decide) (by decide)).fab
    · split
      · have hn:=IV (n:=s.cfg.th) h.full
        exact ((vT _ _ (hR.fu hn.2 hn.1)).at (by decide) (by decide)).fab
      · have hn:=IV (n:=s.cfg.th) h.empty
        have hu:=vT (dH s.empty).2 _ (hR.em hn.2 hn.1)
        exact hu.fab.put (Hc hu.tc)
theorem Zu {s u:State} {id k r g pc:Int}:fY s (gE u id k r g pc)=fY s u:=by
  unfold gE eO kN; split <;> rfl
theorem Uj {s:State} {id:Int}:fY s (lQ s id)≤1:=by
  unfold lQ
  split
  · exact jF (oA s)
  · split
    · unfold Hs; rw [Zu]; exact jF (oB s _)
    · split
      · unfold Dx kN; rw [kP,oF]; exact jF (tG s _)
      · unfold xO; rw [kP,oF]; exact jF (pT s _)
theorem IO {s:State} {id:Int} (h:(iV s id).2≠0):(iV s id).1=s:=by
  unfold iV at h ⊢; split
  · rfl
  · split
    · rfl
    · split
      · rfl
      · rename_i h1 h2 h3
        rw [if_neg h1,if_neg h2,if_neg h3] at h
        exact absurd rfl h
theorem GJ {s:State} {id:Int}:(iV s id).2=0↔(cN s id=true∧kC (me s id)=0):=by
  simp only [cN,E0,decide_eq_true_eq]
  unfold iV; split
  · rename_i h; simp only [show ((20:Int)=0)=False from by simp,false_iff]; rintro ⟨⟨⟨h1,_⟩,_⟩,_⟩; exact h h1
  · rename_i h; split
    · simp only [show ((123:Int)=0)=False from by simp,false_iff]; omega
    · split
      · rename_i h3; constructor
        · intro e; exact absurd e h3
        · rintro ⟨_,e⟩; exact absurd e h3
      · rename_i h2 h3
        simp only [Classical.not_not] at h h3
        exact ⟨fun _=>⟨⟨⟨h,by omega⟩,by omega⟩,h3⟩,fun _=>rfl⟩
theorem Gy {s:State} {id:Int} (h:(iV s id).2=0):(iV s id).1=oP s id:=by
  have:=GJ.1 h
  simp only [cN,E0,decide_eq_true_eq] at this
  unfold iV
  rw [if_neg (by simp [this.1.1.1]),if_neg (by omega),if_neg (by simp [this.2])]
theorem Gx {s:State} {id:Int} (h:Fab s):Fab (oP s id):=by
  unfold oP; split
  · exact GP h
  · split
    · exact FD h
    · exact DR h
theorem Yt {s:State} {id:Int}:fY s (iV s id).1≤1:=by
  by_cases e:(iV s id).2=0
  · rw [Gy e]; unfold oP; split
    · exact Eu WW
    · split
      · exact Eu WL
      · exact Uj
  · rw [IO e]; exact jF (oA s)
end Go.Sak
