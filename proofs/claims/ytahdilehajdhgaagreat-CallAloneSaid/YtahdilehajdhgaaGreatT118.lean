/- Part T118 of the proofs about the program: Pk, Pj, K224. Conditions: none. -/
import Derived.Test.YtahdilehajdhgaaGreatT117
open Bool renaming and_eq_true→D9
open List renaming getD_eq_getElem?_getD→E6,getElem?_eq_some_iff→F6,map_map→R7,mem_cons_of_mem→H8,mem_cons_self→J7,mem_filter→P1,mem_map→G5,mem_zipIdx_iff_getElem?→T8,nodup_cons→Q4,take_length→N6
namespace Go.Sak
open Go Go.RowKit
set_option linter.unusedVariables false
set_option linter.unusedSimpArgs false
def yG (x:Nat×Thread):Due:=⟨x.2.untl,(x.1:Int)⟩
theorem Yt:∀ (pre:List (Nat×Thread)) (l:List Due),dP l=true→(∀ x,x∈pre→sO x.2.untl=true∧Rf (x.1:Int)=true)→((l ++ pre.map yG).map (·.id)).Nodup→(pre.foldl rS l).Perm (l ++ pre.map yG)∧dP (pre.foldl rS l)=true
  | [],l,h,_,_=>⟨by simp,h⟩
  | x :: pre,l,h,h1,h2=>by
    have hx:=h1 x (J7 ..)
    have hn:∀ y,y∈l→y.id≠(x.1:Int):=fun y hy e=>by
      rw [List.map_append,List.nodup_append] at h2
      exact h2.2.2 y.id (G5.2 ⟨y,hy,rfl⟩) (x.1:Int) (by simp [yG]) e
    obtain ⟨p1,p2⟩:=Yv (l:=l) (d:=⟨x.2.untl,(x.1:Int)⟩) h hx.1 hx.2 hn
    have e:rS l x=jF (l ++ [yG x]):=by unfold rS; rw [p1]; rfl
    have hp:=nU (l ++ [yG x])
    have hp2:(jF (l ++ [yG x]) ++ pre.map yG).Perm (l ++ (x :: pre).map yG):=by
      have:=hp.append_right (pre.map yG)
      simpa using this
    obtain ⟨q1,q2⟩:=Yt pre (jF (l ++ [yG x])) p2 (fun y hy=>h1 y (H8 _ hy)) ((hp2.map _).nodup_iff.2 h2)
    rw [List.foldl_cons,e]
    exact ⟨q1.trans hp2,q2⟩
theorem yM {ts:List Thread} {x:Nat×Thread}:x∈iB ts ts.length↔ts[x.1]?=some x.2∧lJ x.2=true:=by
  unfold iB
  rw [N6]
  simp only [G5,P1]
  constructor
  · rintro ⟨⟨t,i⟩,⟨h1,h2⟩,rfl⟩
    rw [T8] at h1
    exact ⟨h1,h2⟩
  · rintro ⟨h1,h2⟩
    exact ⟨(x.2,x.1),⟨T8.2 h1,h2⟩,rfl⟩
theorem Iu (ts:List Thread):((iB ts ts.length).map (·.1)).Nodup:=by
  unfold iB
  rw [N6,R7]
  have h1:(ts.zipIdx.map (·.2)).Nodup:=by
    rw [List.zipIdx_map_snd]; exact List.nodup_range'
  exact h1.sublist ((List.filter_sublist).map _)
theorem MD {s:State} (h:Fab s) {t:Thread} (ht:t∈s.threads):0≤t.untl∧t.untl≤1099511627776:=by
  have:=h.thr t ht
  simp only [cZ,nE,cD,D9,decide_eq_true_eq] at this
  exact ⟨this.1.1.2.1.1,this.1.1.2.1.2⟩
theorem WY {s:State} (h:Fab s):s.threads.length≤16:=by
  have h1:=h.thl
  have:dT s.cfg=true:=by
    cases hc:dT s.cfg with
    | true=>rfl
    | false=>have:=h.room; unfold fL at this; rw [hc] at this; simp at this
  simp only [dT,cD,D9,decide_eq_true_eq] at this
  omega
theorem yH {s:State} (h:Fab s):(kI s).Perm ((iB s.threads s.threads.length).map yG):=by
  have h0:kI s=pJ (iB s.threads s.threads.length):=if_pos (qO.2 h)
  rw [h0]
  have:=(Yt (iB s.threads s.threads.length) [] rfl (fun x hx=>?_) ?_).1
  · simpa [pJ] using this
  · obtain ⟨h1,_⟩:=yM.1 hx
    have h2:=MD h (List.mem_of_getElem? h1)
    have h3:=(F6.1 h1).1
    have h4:=WY h
    constructor
    · simp only [sO,D9,decide_eq_true_eq]; omega
    · simp only [Rf,D9,decide_eq_true_eq]; omega
  · rw [List.nil_append,R7]
    have:(iB s.threads s.threads.length).map ((fun d:Due=>d.id)∘yG)=((iB s.threads s.threads.length).map (·.1)).map (fun n:Nat=>(n:Int)):=by rw [R7]; rfl
    rw [this]
    exact (Iu _).map _ fun a b hab=>by intro e; exact hab (by omega)
theorem EQ (s:State):(kI s).Pairwise (fun a b=>zF a b=true):=(kD.1 (Ah s)).2.2.imp fun h=>yD h
theorem EP {s:State} {m:List Due} (h:bZ s=true) (hp:m.isPerm ((iB s.threads s.threads.length).map yG)=true) (hs:m.Pairwise (fun a b=>zF a b=true)):kI s=m :=
  List.Perm.eq_of_pairwise (fun a b _ _ h k=>Ia h k) (EQ s) hs ((yH (qO.1 h)).trans (List.isPerm_iff.1 hp).symm)
theorem FP {l:List Due} {n:Int} {m:List Due} (h:dP l=true) (hp:m.isPerm (iY l (iG l) n)=true) (hs:m.Pairwise (fun a b=>zF a b=true)):kE l n=(fC l n,m):=by
  unfold kE
  rw [if_neg (by rw [h]; decide),← Bj (List.isPerm_iff.1 hp) hs]
set_option linter.unusedSimpArgs false
def Aq (t:Thread):Prop:=t.st≠0∧iE t.kind=true
def Xu (t:Thread):Thread:=oR (nD t)
theorem Zo {t:Thread} (h:lJ t=true):Aq t∧t.late=false:=by
  simp only [lJ,D9,decide_eq_true_eq,Bool.not_eq_true'] at h
  exact ⟨⟨h.1.1,h.1.2⟩,h.2⟩
theorem GR {t:Thread} (h:cZ t=true) (k:Aq t):cZ (nD t)=true:=by
  obtain ⟨k1,k2⟩:=k
  simp only [cZ,nC,nE,jN,nD,cD,D9,Bool.or_eq_true,decide_eq_true_eq] at *; grind
theorem wA {e:Event} {id:Int} (h:eZ e=true):eZ (gJ e id).1=true:=by
  unfold gJ; split
  · exact h
  · simp only [eZ,D9] at h ⊢
    refine ⟨h.1,Cc h.2 ?_⟩
    unfold iX; split
    · exact List.Sublist.refl _
    · exact List.eraseIdx_sublist ..
theorem vZ {e:Event} {id n:Int} (h:dG n e.ln=true):dG n (gJ e id).1.ln=true:=by
  unfold gJ; split
  · exact h
  · exact sI h
theorem QC {s:State} {id:Int} (h0:0≤id) (h1:id.toNat<s.threads.length):me s id∈s.threads:=by
  unfold me; exact iA h1
theorem Xv {s:State} {id:Int} (h:Fab s) (h0:0≤id) (h1:id.toNat<s.threads.length) (k:Aq (me s id)):Fab (gC s id):=by
  have ht:=GR (h.thr _ (QC h0 h1)) k
  unfold gC; split
  · exact h.put ht
  · exact ((h.fu (vZ h.fl) (wA h.full)).em (vZ h.el) (wA h.empty)).put (Ow ht)
theorem Xw (s:State) (id:Int):(gC s id).threads=s.threads.set id.toNat (Xu (me s id)):=by
  unfold gC Xu
  split
  · rename_i h
    have:oR (nD (me s id))=nD (me s id):=if_neg h
    rw [this]; rfl
  · rfl
theorem FQ {s:State} {i j:Int} (h0:0≤i) (h1:0≤j) (h:i≠j):me (gC s j) i=me s i:=by
  unfold me
  rw [Xw]
  have:j.toNat≠i.toNat:=by omega
  simp [E6,List.getElem?_set,this]
theorem Io:∀ (l:List Int) {s:State},l.Nodup→(∀ id,id∈l→0≤id∧id.toNat<s.threads.length∧Aq (me s id))→Fab s→Fab (gB s l)
  | [],s,_,_,h=>h
  | x :: l,s,hn,hx,h=>by
    obtain ⟨a,b,c⟩:=hx x (J7 ..)
    refine Io l (s:=gC s x) (Q4.1 hn).2 (fun id hid=>?_) (Xv h a b c)
    obtain ⟨p,q,r⟩:=hx id (H8 _ hid)
    have hne:id≠x:=fun e=>(Q4.1 hn).1 (e ▸ hid)
    exact ⟨p,by rw [Jc]; exact q,by rw [FQ p a hne]; exact r⟩
theorem Eh:∀ (l:List Int) (s:State),(gB s l).cfg=s.cfg∧(gB s l).word=s.word∧(gB s l).slots=s.slots∧(gB s l).sends=s.sends∧(gB s l).recvs=s.recvs∧(gB s l).log=s.log
  | [],s=>⟨rfl,rfl,rfl,rfl,rfl,rfl⟩
  | x :: l,s=>by
    obtain ⟨a,b,c,d,e,f⟩:=Eh l (gC s x)
    have:(gC s x).cfg=s.cfg∧(gC s x).word=s.word∧(gC s x).slots=s.slots∧(gC s x).sends=s.sends∧(gC s x).recvs=s.recvs∧(gC s x).log=s.log:=by unfold gC; split <;> exact ⟨rfl,rfl,rfl,rfl,rfl,rfl⟩
    exact ⟨a.trans this.1,b.trans this.2.1,c.trans this.2.2.1,d.trans this.2.2.2.1,e.trans this.2.2.2.2.1,f.trans this.2.2.2.2.2⟩
theorem Xm (s:State) (n:Int):fO s n=fC (kI s) (s.now+n):=by
  unfold fO kE; rw [if_neg (by rw [Ah]; decide)]
theorem Sa (s:State) (n:Int):(fO s n).Nodup:=by
  rw [Xm]; unfold fC
  exact (kD.1 (Ah s)).2.1.sublist ((List.filter_sublist).map _)
theorem FH {s:State} (h:Fab s) {n id:Int}:id∈fO s n↔∃ (i:Nat) (t:Thread),s.threads[i]?=some t∧lJ t=true∧t.untl≤s.now+n∧id=i:=by
  rw [Xm]
  unfold fC
  simp only [G5,P1,decide_eq_true_eq]
  constructor
  · rintro ⟨d,⟨h1,h2⟩,rfl⟩
    obtain ⟨x,hx,rfl⟩:=G5.1 ((yH h).mem_iff.1 h1)
    obtain ⟨q1,q2⟩:=yM.1 hx
    exact ⟨x.1,x.2,q1,q2,h2,rfl⟩
  · rintro ⟨i,t,h1,h2,h3,rfl⟩
    exact ⟨⟨t.untl,i⟩,⟨(yH h).mem_iff.2 (G5.2 ⟨(i,t),yM.2 ⟨h1,h2⟩,rfl⟩),h3⟩,rfl⟩
theorem LC {s:State} (h:Fab s) {n id:Int} (hm:id∈fO s n):0≤id∧id.toNat<s.threads.length∧Aq (me s id):=by
  obtain ⟨i,t,h1,h2,_,rfl⟩:=(FH h).1 hm
  obtain ⟨h3,h4⟩:=F6.1 h1
  refine ⟨by omega,by simpa using h3,?_⟩
  have:me s (i:Int)=t:=by unfold me; rw [Int.toNat_natCast,E6,h1]; rfl
  rw [this]; exact (Zo h2).1
theorem JM {s:State} {m:Int} (h:Fab s) (h0:0≤m) (h1:m≤1099511627776):Fab (rF s m):=⟨h.room,h.word,h.len,h.slot,h.sends,h.recvs,h.fl,h.el,h.full,h.empty,h0,h1,h.thl,h.thr⟩
theorem Zm {s:State} {n:Int} (h:Fab s) (h0:0≤n) (h1:n≤1099511627776 - s.now):Fab (gB (rF s (s.now+n)) (fO s n)) :=
  Io _ (Sa s n) (fun id hm=>LC h hm) (JM h (by have:=h.now0; omega) (by omega))
end Go.Sak
namespace Go.Sak
open Go Go.RowKit Go.Proofs
set_option linter.unusedVariables false
set_option linter.unusedSimpArgs false
set_option maxRecDepth 10000
set_option maxHeartbeats 8000000
def ZR:AFn:=⟨15,(.seq (.reg [o1 1 (.box 33 0),o1 2 (.mv (ci 0)),o1 3 (.mv (.const (.bool false)))]) (.seq (.reg [o1 7 (.ld 20 true 1),o1 8 (.call 21 [7]),o1 9 (.call 57 [8]),o1 6 (.mv 9),o1 10 (.ext 6 0),o1 11 (.ext 6 1),o1 4 (.alloc 51 [(.int .i64 0),(.int .i64 0)]),o2 (.st 2 4 10),o1 5 (.mv 11)]) (.seq (.reg [o1 12 (.faddr 0 4),o1 13 (.ld 1 false 12),o1 14 (.mv 5),o1 2 (.mv 13),o1 3 (.mv 14)]) .ret))),[(2,none),(3,none)]⟩
theorem Tj:xf Tryz.prog 20=some ZR:=by kernel_rfl
theorem JV {s:State} {n:Int} (hb:Bd s 100000):cX Tryz.prog 16 [.agg (bR s),.int .i64 n] (.tup [.agg (bR (jO s n).1),.slv 1 ((jO s n).2.1.map aS),.int .i64 (jO s n).2.2],[],[]):=by
  unfold jO
  split
  · rename_i h; exact JW hb h
  · rename_i h
    have h':bZ s=true:=by simpa using h
    split
    · rename_i h2
      by_cases h3:n<0
      · exact JX hb h' h3
      · exact JY hb h' h3 (h2.resolve_left h3)
    · rename_i h2
      exact JU hb h' (fun e=>h2 (.inl e)) (fun e=>h2 (.inr e))
theorem Zl {s:State} {n:Int} (h:¬ (jO s n).2.2=0):(jO s n).1=s∧(jO s n).2.1=[]∧decide ((jO s n).2.2=20)=!bZ s:=by
  unfold jO at h ⊢
  split
  · rename_i h2; simp [h2]
  · rename_i h2
    have h2':bZ s=true:=by simpa using h2
    rw [if_neg h2] at h
    split
    · simp [h2']
    · rename_i h3; rw [if_neg h3] at h; exact absurd rfl h
theorem Mc {s:State} {n:Int} (h:(jO s n).2.2=0):bZ s=true∧0≤n∧n≤1099511627776 - s.now∧jO s n=(gB (rF s (s.now+n)) (fO s n),fO s n,0):=by
  unfold jO at h ⊢
  split at h
  · cases h
  · split at h
    · cases h
    · rename_i h1 h2
      rw [if_neg h1,if_neg h2]
      exact ⟨by simpa using h1,by omega,by omega,rfl⟩
theorem Ee {s:State} {k:Nat} (h:HX s=true) (hk:200≤k):Bd s k:=(Ll h).mono hk
theorem gN (a:AV) (l:List AV) (o:Nat) (v:List AV):aJ (a :: l) o v=(a :: l).take o ++ v ++ (a :: l).drop (o+v.length):=rfl
theorem iJ (s u:State):aJ (bR u) 0 (bR s)=bR s:=rfl
end Go.Sak
