/- Part T41 of the proofs about the program: Xr, Pr, Xs, Ps. Conditions: none. -/
import Derived.Test.YtahdilehajdhgaaGreatT40
open Bool renaming and_eq_true→D9
namespace Go.Sak
open Go Go.RowKit
set_option linter.unusedVariables false
set_option linter.unusedSimpArgs false

def kK (t:Thread) (got:Int):Thread:=⟨t.st,t.kind,t.val,t.untl,t.pc,t.reg,t.seen,t.tries,t.late,t.res,got⟩
def Gp (s:State) (id:Int):State:=kM (eI s (iC s.recvs id).1) id 1
def uY (s:State) (id:Int):State:=if gY s.recvs id=0 then kM s id 2 else if (me s id).late then fZ s id 5 9 else vI s id
def Bv (s:State) (id:Int):State :=
  if (me s id).kind=5 then fZ s id 4 9 else if (me s id).late then fZ s id 5 9 else if tI s.cfg (me s id).tries=2 then kM s id 5 else vI s id
def Bt (s:State) (id:Int):State :=
  if (tH s.word s.slots.length).2=1 then kM s id 3 else if (tH s.word s.slots.length).2=4 then Bv s id else fZ s id (tH s.word s.slots.length).2 9
def Bu (s:State) (id:Int):State :=
  let r:=kG s.word s.slots.length
  if r.2.2=1 then gD (dD (cK s r.1) id (fB (me s id) r.2.1)) id (me s id).kind 1 (sP s r.2.1) 4 else if r.2.2=4 then kM s id 2 else fZ s id r.2.2 9
def Ei (s:State) (id:Int):State :=
  kM (cR (dD s id (kK (me s id) (tD s.slots (me s id).reg).1)) (eY s.slots (me s id).reg).1) id 6
def wQ (s:State) (id:Int):State:=kM (dD s id (eP (me s id) (oC s.empty))) id 7
def qR (s:State) (id:Int):State :=
  let r:=fI s.full
  kM (if r.2.2 then cM (cQ s r.1) r.2.1 else cQ s r.1) id 9
def uX (s:State) (id:Int):State:=if (tH s.word s.slots.length).2=4∧¬ (me s id).late then kM s id 8 else kM s id 2
def qP (s:State) (id:Int):State :=
  if (me s id).late then kM s id 2 else
    let r:=kF s.empty (me s id).seen id
    if r.2.1 then dD (cH s r.1) id (Cw (iD (me s id) 2) 2).1 else kM (cH s r.1) id 2
def qQ (s:State) (id:Int):State:=dD (eI s (iX s.recvs id).1) id (xG (me s id)).1
def nI (s:State) (id:Int):Bool:=cN s id && decide (kB (me s id)=0) && decide (kJ (me s id).kind=2)
def oL (s:State) (id:Int):State :=
  if ¬ nI s id then s else match (me s id).pc.toNat with
    | 0=>Gp s id
    | 1=>uY s id
    | 2=>Bt s id
    | 3=>Bu s id
    | 4=>Ei s id
    | 5=>wQ s id
    | 6=>qR s id
    | 7=>uX s id
    | 8=>qP s id
    | _=>qQ s id

theorem LZ {t:Thread} {x:Int} (h:cZ t=true) (hr:t.st=1):cZ (kK t x)=true:=by
  simp only [cZ,nC,nE,jN,kK,cD,D9,Bool.or_eq_true,decide_eq_true_eq] at *; grind
theorem Rn.got {s:State} {id x:Int} (h:Rn s id):Rn (dD s id (kK (me s id) x)) id:=h.put (LZ h.tc h.run) h.run
theorem Ou {w:Word} {room:Int} (h:cT w room=true):0≤(kG w room).2.1∧(kG w room).2.1≤1099511627776:=by
  simp only [cT,cD,D9,decide_eq_true_eq] at h
  unfold kG; split
  · simp
  · split
    · simp only []; omega
    · split <;> simp
theorem KZ {s:State} {id:Int} (h:Rn s id):Rn (Bv s id) id:=by
  unfold Bv; split
  · exact h.ends (by decide) (by decide) (by decide) (by decide)
  · split
    · exact h.ends (by decide) (by decide) (by decide) (by decide)
    · split
      · exact h.at (by decide) (by decide)
      · exact h.on
theorem FC {s:State} {id:Int} (h:Fab s):Fab (oL s id):=by
  unfold oL
  split
  · exact h
  · rename_i hI
    simp only [Classical.not_not,nI,D9,decide_eq_true_eq] at hI
    have hR:Rn s id:=Jq hI.1.1 hI.1.2
    have hb:=h.wb
    have hl:=h.len
    split
    · exact ((hR.rv (sH h.recvs hR.lo (by have:=h.thl; have:=hR.hi; omega))).at (by decide) (by decide)).fab
    · unfold uY; split
      · exact (hR.at (by decide) (by decide)).fab
      · split
        · exact (hR.ends (by decide) (by decide) (by decide) (by decide)).fab
        · exact hR.on.fab
    · unfold Bt; split
      · exact (hR.at (by decide) (by decide)).fab
      · split
        · exact (KZ hR).fab
        · have:=Ju (w:=s.word) (room:=s.slots.length)
          exact (hR.ends this.1 this.2 (by decide) (by decide)).fab
    · unfold Bu
      have hw:Rn (cK s (kG s.word s.slots.length).1) id:=hR.wd (by rw [hl]; exact Pq h.word)
      have ha:=Ou (w:=s.word) (room:=s.slots.length) (by rw [hl]; exact h.word)
      have:=Ju (w:=s.word) (room:=s.slots.length)
      simp only []; split
      · exact ((hw.reg ha.1 ha.2).rtell (by decide) (by decide) (by decide) (by decide)).fab
      · split
        · exact (hR.at (by decide) (by decide)).fab
        · exact (hR.ends this.1 this.2 (by decide) (by decide)).fab
    · unfold Ei
      exact ((hR.got.sl Fc (Cu h.slot)).at (by decide) (by decide)).fab
    · exact ((hR.seen Pp.1 Pp.2).at (by decide) (by decide)).fab
    · unfold qR; simp only []
      have hn:=IV h.full h.fl
      have he:=hR.fu hn.2 hn.1
      split
      · exact (he.wake.at (by decide) (by decide)).fab
      · exact (he.at (by decide) (by decide)).fab
    · unfold uX; split <;> exact (hR.at (by decide) (by decide)).fab
    · unfold qP; split
      · exact (hR.at (by decide) (by decide)).fab
      · simp only []
        have hn:=Zv (seen:=(me s id).seen) h.empty h.el hR.lo (by have:=h.thl; have:=hR.hi; omega)
        have he:=hR.em hn.2 hn.1
        split
        · exact he.fab.put (Ov (Zj hR.tc hR.run (by decide) (by decide)) (by decide) (by decide))
        · exact (he.at (by decide) (by decide)).fab
    · unfold qQ
      exact (hR.rv (sI h.recvs)).fab.put (Hb hR.tc)
theorem GC {s:State} {id:Int}:NF s (Bv s id) id:=by
  have h0:=nZ s
  unfold Bv; split
  · exact .ends h0
  · split
    · exact .ends h0
    · split
      · exact .at h0
      · exact .on h0
theorem NF.tell2 {s u:State} {id k r g pc:Int} {t:Thread} (h:Fp s u):NF s (gD (dD u id t) id k r g pc) id:=by
  unfold gD eO; split
  · refine .inr ⟨u,iD (me (logged (dD (dD u id t) id (nY (me (dD u id t) id) k r g)) ⟨id,k,(me (dD u id t) id).val,r,g⟩) id) pc,h,.inr (.inl ⟨⟨id,k,(me (dD u id t) id).val,r,g⟩,?_⟩)⟩
    unfold kM logged dD; simp [List.set_set]
  · exact .at2 h
theorem WK {s:State} {id:Int}:NF s (oL s id) id:=by
  have h0:=nZ s
  unfold oL
  split
  · exact .refl s id
  · split
    · exact .at (Ff s _)
    · unfold uY; split
      · exact .at h0
      · split
        · exact .ends h0
        · exact .on h0
    · unfold Bt; split
      · exact .at h0
      · split
        · exact GC
        · exact .ends h0
    · unfold Bu; simp only []; split
      · exact .tell2 (oA s _)
      · split
        · exact .at h0
        · exact .ends h0
    · unfold Ei
      exact .at2 (zP s _)
    · exact .at2 h0
    · unfold qR; simp only []; split
      · exact .wake (tF s _)
      · exact .at (tF s _)
    · unfold uX; split <;> exact .at h0
    · unfold qP; split
      · exact .at h0
      · simp only []; split
        · exact .put (pS s _)
        · exact .at (pS s _)
    · exact .put (Ff s _)

def Uh (k:Int):Int:=if k=7 then 1 else if k=8 then 2 else 0
def oV (s:State) (l:List Int):State:=l.foldl cM s
def Hr (s:State) (id:Int):State:=gD (cK s (Db s.word (Uh (me s id).kind))) id (me s id).kind 1 0 1
def Dw (s:State) (id:Int):State:=kM (oV (cQ s (dH s.full).1) (dH s.full).2) id 2
def xN (s:State) (id:Int):State :=
  let u:=oV (cH s (dH s.empty).1) (dH s.empty).2
  dD u id (xG (me u id)).1
def Hg (s:State) (id:Int):Bool:=cN s id && decide (kB (me s id)=0) && decide (kJ (me s id).kind=3)
def lP (s:State) (id:Int):State:=if ¬ Hg s id then s else if (me s id).pc=0 then Hr s id else if (me s id).pc=1 then Dw s id else xN s id
def oO (s:State) (id:Int):State:=if kJ (me s id).kind=1 then oQ s id else if kJ (me s id).kind=2 then oL s id else lP s id
def iU (s:State) (id:Int):State×Int :=
  if ¬ bZ s then (s,20) else if id<0∨id≥s.threads.length then (s,123) else if kB (me s id)≠0 then (s,kB (me s id)) else (oO s id,0)

def Wok (s a:State) (id:Int):Prop:=a.threads.length=s.threads.length∧∀ i:Nat,(i:Int)≠id→a.threads.getD i default=s.threads.getD i default∨((s.threads.getD i default).st=2∧a.threads.getD i default=QI (s.threads.getD i default))
theorem Tf {s:State} {j:Int}:(cM s j).threads.length=s.threads.length:=by unfold cM; split <;> simp [dD]
theorem Wok.trans {a b c:State} {id:Int} (h:Wok a b id) (k:Wok b c id):Wok a c id:=by
  refine ⟨k.1.trans h.1,fun i hi=>?_⟩
  rcases h.2 i hi with h1 | ⟨h1,h2⟩ <;> rcases k.2 i hi with k1 | ⟨k1,k2⟩
  · exact .inl (k1.trans h1)
  · rw [h1] at k1 k2; exact .inr ⟨k1,k2⟩
  · exact .inr ⟨h1,k1.trans h2⟩
  · rw [h2] at k1; cases k1
theorem oE {s:State}:∀ (l:List Int) (u:State),fY s (oV u l)=fY s u
  | [],u=>rfl
  | j :: l,u=>(oE l (cM u j)).trans zO
theorem vS {id:Int}:∀ (l:List Int) (u:State),Rn u id→Rn (oV u l) id
  | [],u,h=>h
  | j :: l,u,h=>vS l (cM u j) h.wake
theorem Kd {w:Word} {m room:Int} (h:cT w room=true):cT (Db w m) room=true:=by
  unfold Db; split
  · simp only [cT,cD,D9,decide_eq_true_eq] at h ⊢
    have hl:iN ⟨w.h,w.t,if w.m<m then m else w.m⟩≤room:=by
      simp only [iN] at h ⊢
      split <;> (try split) <;> omega
    split <;> (split at hl <;> omega)
  · exact h
theorem IU {e:Event} {n:Int} (h:eZ e=true):eZ (dH e).1=true∧dG n (dH e).1.ln=true:=by
  have h':=tG.1 h
  unfold dH
  rw [if_neg (by simp [h])]
  refine ⟨tG.2 ⟨?_,?_,?_⟩,?_⟩
  · simp only []; omega
  · simp only []; omega
  · rfl
  · rfl
theorem DQ {s:State} {id:Int} (h:Fab s):Fab (lP s id):=by
  unfold lP
  split
  · exact h
  · rename_i hI
    simp only [Classical.not_not,Hg,D9,decide_eq_true_eq] at hI
    have hR:Rn s id:=Jq hI.1.1 hI.1.2
    split
    · exact ((hR.wd (Kd h.word)).rtell (by decide) (by decide) (by decide) (by decide)).fab
    · split
      · have hn:=IU (n:=s.cfg.th) h.full
        exact ((vS _ _ (hR.fu hn.2 hn.1)).at (by decide) (by decide)).fab
      · have hn:=IU (n:=s.cfg.th) h.empty
        have hu:=vS (dH s.empty).2 _ (hR.em hn.2 hn.1)
        exact hu.fab.put (Hb hu.tc)
theorem Zt {s u:State} {id k r g pc:Int}:fY s (gD u id k r g pc)=fY s u:=by
  unfold gD eO kM; split <;> rfl
theorem Ui {s:State} {id:Int}:fY s (lP s id)≤1:=by
  unfold lP
  split
  · exact jE (nZ s)
  · split
    · unfold Hr; rw [Zt]; exact jE (oA s _)
    · split
      · unfold Dw kM; rw [kO,oE]; exact jE (tF s _)
      · unfold xN; rw [kO,oE]; exact jE (pS s _)
theorem IN {s:State} {id:Int} (h:(iU s id).2≠0):(iU s id).1=s:=by
  unfold iU at h ⊢; split
  · rfl
  · split
    · rfl
    · split
      · rfl
      · rename_i h1 h2 h3
        rw [if_neg h1,if_neg h2,if_neg h3] at h
        exact absurd rfl h
theorem GI {s:State} {id:Int}:(iU s id).2=0↔(cN s id=true∧kB (me s id)=0):=by
  simp only [cN,D9,decide_eq_true_eq]
  unfold iU; split
  · rename_i h; simp only [show ((20:Int)=0)=False from by simp,false_iff]; rintro ⟨⟨⟨h1,_⟩,_⟩,_⟩; exact h h1
  · rename_i h; split
    · simp only [show ((123:Int)=0)=False from by simp,false_iff]; omega
    · split
      · rename_i h3; constructor
        · intro e; exact absurd e h3
        · rintro ⟨_,e⟩; exact absurd e h3
      · rename_i h2 h3
        simp only [Classical.not_not] at h h3
        exact ⟨fun _=>⟨⟨⟨h,by omega⟩,by omega⟩,h3⟩,fun _=>rfl⟩
theorem Gx {s:State} {id:Int} (h:(iU s id).2=0):(iU s id).1=oO s id:=by
  have:=GI.1 h
  simp only [cN,D9,decide_eq_true_eq] at this
  unfold iU
  rw [if_neg (by simp [this.1.1.1]),if_neg (by omega),if_neg (by simp [this.2])]
theorem Gw {s:State} {id:Int} (h:Fab s):Fab (oO s id):=by
  unfold oO; split
  · exact GO h
  · split
    · exact FC h
    · exact DQ h
theorem Ys {s:State} {id:Int}:fY s (iU s id).1≤1:=by
  by_cases e:(iU s id).2=0
  · rw [Gx e]; unfold oO; split
    · exact Et WV
    · split
      · exact Et WK
      · exact Ui
  · rw [IN e]; exact jE (nZ s)
end Go.Sak
