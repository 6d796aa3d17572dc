/- Part T118 of the proofs about the program: Pk, Pj, K224. Conditions: none. -/
import Derived.Test.YtahdilehajdhgaaGreatT117
open Bool renaming and_eq_true→E0
open List renaming getD_eq_getElem?_getD→E7,getElem?_eq_some_iff→F7,map_map→R8,mem_cons_of_mem→H9,mem_cons_self→J8,mem_filter→P2,mem_map→G6,mem_zipIdx_iff_getElem?→T9,nodup_cons→Q5,take_length→N7
namespace Go.Sak
open Go Go.RowKit
set_option linter.unusedVariables false
set_option linter.unusedSimpArgs false
def yH (x:Nat×Thread):Due:=⟨x.2.untl,(x.1:Int)⟩
theorem Yu:∀ (pre:List (Nat×Thread)) (l:List Due),dP l=true→(∀ x,x∈pre→sP x.2.untl=true∧Rr (x.1:Int)=true)→((l ++ pre.map yH).map (·.id)).Nodup→(pre.foldl rT l).Perm (l ++ pre.map yH)∧dP (pre.foldl rT l)=true
  | [],l,h,_,_=>⟨by simp,h⟩
  | x :: pre,l,h,h1,h2=>by
    have hx:=h1 x (J8 ..)
    have hn:∀ y,y∈l→y.id≠(x.1:Int):=fun y hy e=>by
      rw [List.map_append,List.nodup_append] at h2
      exact h2.2.2 y.id (G6.2 ⟨y,hy,rfl⟩) (x.1:Int) (by simp [yH]) e
    obtain ⟨p1,p2⟩:=Yw (l:=l) (d:=⟨x.2.untl,(x.1:Int)⟩) h hx.1 hx.2 hn
    have e:rT l x=jG (l ++ [yH x]):=by unfold rT; rw [p1]; rfl
    have hp:=nV (l ++ [yH x])
    have hp2:(jG (l ++ [yH x]) ++ pre.map yH).Perm (l ++ (x :: pre).map yH):=by
      have:=hp.append_right (pre.map yH)
      simpa using this
    obtain ⟨q1,q2⟩:=Yu pre (jG (l ++ [yH x])) p2 (fun y hy=>h1 y (H9 _ hy)) ((hp2.map _).nodup_iff.2 h2)
    rw [List.foldl_cons,e]
    exact ⟨q1.trans hp2,q2⟩
theorem yN {ts:List Thread} {x:Nat×Thread}:x∈iC ts ts.length↔ts[x.1]?=some x.2∧lK x.2=true:=by
  unfold iC
  rw [N7]
  simp only [G6,P2]
  constructor
  · rintro ⟨⟨t,i⟩,⟨h1,h2⟩,rfl⟩
    rw [T9] at h1
    exact ⟨h1,h2⟩
  · rintro ⟨h1,h2⟩
    exact ⟨(x.2,x.1),⟨T9.2 h1,h2⟩,rfl⟩
theorem Iv (ts:List Thread):((iC ts ts.length).map (·.1)).Nodup:=by
  unfold iC
  rw [N7,R8]
  have h1:(ts.zipIdx.map (·.2)).Nodup:=by
    rw [List.zipIdx_map_snd]; exact List.nodup_range'
  exact h1.sublist ((List.filter_sublist).map _)
theorem ME {s:State} (h:Fab s) {t:Thread} (ht:t∈s.threads):0≤t.untl∧t.untl≤1099511627776:=by
  have:=h.thr t ht
  simp only [cZ,nF,cD,E0,decide_eq_true_eq] at this
  exact ⟨this.1.1.2.1.1,this.1.1.2.1.2⟩
theorem WZ {s:State} (h:Fab s):s.threads.length≤16:=by
  have h1:=h.thl
  have:dT s.cfg=true:=by
    cases hc:dT s.cfg with
    | true=>rfl
    | false=>have:=h.room; unfold fL at this; rw [hc] at this; simp at this
  simp only [dT,cD,E0,decide_eq_true_eq] at this
  omega
theorem yI {s:State} (h:Fab s):(kJ s).Perm ((iC s.threads s.threads.length).map yH):=by
  have h0:kJ s=pK (iC s.threads s.threads.length):=if_pos (qP.2 h)
  rw [h0]
  have:=(Yu (iC s.threads s.threads.length) [] rfl (fun x hx=>?_) ?_).1
  · simpa [pK] using this
  · obtain ⟨h1,_⟩:=yN.1 hx
    have h2:=ME h (List.mem_of_getElem? h1)
    have h3:=(F7.1 h1).1
    have h4:=WZ h
    constructor
    · simp only [sP,E0,decide_eq_true_eq]; omega
    · simp only [Rr,E0,decide_eq_true_eq]; omega
  · rw [List.nil_append,R8]
    have:(iC s.threads s.threads.length).map ((fun d:Due=>d.id)∘yH)=((iC s.threads s.threads.length).map (·.1)).map (fun n:Nat=>(n:Int)):=by rw [R8]; rfl
    rw [this]
    exact (Iv _).map _ fun a b hab=>by intro e; exact hab (by omega)
theorem ES (s:State):(kJ s).Pairwise (fun a b=>zG a b=true):=(kE.1 (Ai s)).2.2.imp fun h=>yE h
theorem EQ {s:State} {m:List Due} (h:bZ s=true) (hp:m.isPerm ((iC s.threads s.threads.length).map yH)=true) (hs:m.Pairwise (fun a b=>zG a b=true)):kJ s=m :=
  List.Perm.eq_of_pairwise (fun a b _ _ h k=>Ib h k) (ES s) hs ((yI (qP.1 h)).trans (List.isPerm_iff.1 hp).symm)
theorem FQ {l:List Due} {n:Int} {m:List Due} (h:dP l=true) (hp:m.isPerm (iZ l (iH l) n)=true) (hs:m.Pairwise (fun a b=>zG a b=true)):kF l n=(fC l n,m):=by
  unfold kF
  rw [if_neg (by rw [h]; decide),← Bk (List.isPerm_iff.1 hp) hs]
set_option linter.unusedSimpArgs false
def Ar (t:Thread):Prop:=t.st≠0∧iF t.kind=true
def Xv (t:Thread):Thread:=oS (nE t)
theorem Zp {t:Thread} (h:lK t=true):Ar t∧t.late=false:=by
  simp only [lK,E0,decide_eq_true_eq,Bool.not_eq_true'] at h
  exact ⟨⟨h.1.1,h.1.2⟩,h.2⟩
theorem GS {t:Thread} (h:cZ t=true) (k:Ar t):cZ (nE t)=true:=by
  obtain ⟨k1,k2⟩:=k
  simp only [cZ,nD,nF,jO,nE,cD,E0,Bool.or_eq_true,decide_eq_true_eq] at *; grind
theorem wB {e:Event} {id:Int} (h:eZ e=true):eZ (gL e id).1=true:=by
  unfold gL; split
  · exact h
  · simp only [eZ,E0] at h ⊢
    refine ⟨h.1,Cd h.2 ?_⟩
    unfold iY; split
    · exact List.Sublist.refl _
    · exact List.eraseIdx_sublist ..
theorem wA {e:Event} {id n:Int} (h:dG n e.ln=true):dG n (gL e id).1.ln=true:=by
  unfold gL; split
  · exact h
  · exact sJ h
theorem QD {s:State} {id:Int} (h0:0≤id) (h1:id.toNat<s.threads.length):me s id∈s.threads:=by
  unfold me; exact iB h1
theorem Xw {s:State} {id:Int} (h:Fab s) (h0:0≤id) (h1:id.toNat<s.threads.length) (k:Ar (me s id)):Fab (gD s id):=by
  have ht:=GS (h.thr _ (QD h0 h1)) k
  unfold gD; split
  · exact h.put ht
  · exact ((h.fu (wA h.fl) (wB h.full)).em (wA h.el) (wB h.empty)).put (Ox ht)
theorem Xx (s:State) (id:Int):(gD s id).threads=s.threads.set id.toNat (Xv (me s id)):=by
  unfold gD Xv
  split
  · rename_i h
    have:oS (nE (me s id))=nE (me s id):=if_neg h
    rw [this]; rfl
  · rfl
theorem FR {s:State} {i j:Int} (h0:0≤i) (h1:0≤j) (h:i≠j):me (gD s j) i=me s i:=by
  unfold me
  rw [Xx]
  have:j.toNat≠i.toNat:=by omega
  simp [E7,List.getElem?_set,this]
theorem Ip:∀ (l:List Int) {s:State},l.Nodup→(∀ id,id∈l→0≤id∧id.toNat<s.threads.length∧Ar (me s id))→Fab s→Fab (gC s l)
  | [],s,_,_,h=>h
  | x :: l,s,hn,hx,h=>by
    obtain ⟨a,b,c⟩:=hx x (J8 ..)
    refine Ip l (s:=gD s x) (Q5.1 hn).2 (fun id hid=>?_) (Xw h a b c)
    obtain ⟨p,q,r⟩:=hx id (H9 _ hid)
    have hne:id≠x:=fun e=>(Q5.1 hn).1 (e ▸ hid)
    exact ⟨p,by rw [Jd]; exact q,by rw [FR p a hne]; exact r⟩
theorem Ei:∀ (l:List Int) (s:State),(gC s l).cfg=s.cfg∧(gC s l).word=s.word∧(gC s l).slots=s.slots∧(gC s l).sends=s.sends∧(gC s l).recvs=s.recvs∧(gC s l).log=s.log
  | [],s=>⟨rfl,rfl,rfl,rfl,rfl,rfl⟩
  | x :: l,s=>by
    obtain ⟨a,b,c,d,e,f⟩:=Ei l (gD s x)
    have:(gD s x).cfg=s.cfg∧(gD s x).word=s.word∧(gD s x).slots=s.slots∧(gD s x).sends=s.sends∧(gD s x).recvs=s.recvs∧(gD s x).log=s.log:=by unfold gD; split <;> exact ⟨rfl,rfl,rfl,rfl,rfl,rfl⟩
    exact ⟨a.trans this.1,b.trans this.2.1,c.trans this.2.2.1,d.trans this.2.2.2.1,e.trans this.2.2.2.2.1,f.trans this.2.2.2.2.2⟩
theorem Xn (s:State) (n:Int):fO s n=fC (kJ s) (s.now+n):=by
  unfold fO kF; rw [if_neg (by rw [Ai]; decide)]
theorem Sb (s:State) (n:Int):(fO s n).Nodup:=by
  rw [Xn]; unfold fC
  exact (kE.1 (Ai s)).2.1.sublist ((List.filter_sublist).map _)
theorem FI {s:State} (h:Fab s) {n id:Int}:id∈fO s n↔∃ (i:Nat) (t:Thread),s.threads[i]?=some t∧lK t=true∧t.untl≤s.now+n∧id=i:=by
  rw [Xn]
  unfold fC
  simp only [G6,P2,decide_eq_true_eq]
  constructor
  · rintro ⟨d,⟨h1,h2⟩,rfl⟩
    obtain ⟨x,hx,rfl⟩:=G6.1 ((yI h).mem_iff.1 h1)
    obtain ⟨q1,q2⟩:=yN.1 hx
    exact ⟨x.1,x.2,q1,q2,h2,rfl⟩
  · rintro ⟨i,t,h1,h2,h3,rfl⟩
    exact ⟨⟨t.untl,i⟩,⟨(yI h).mem_iff.2 (G6.2 ⟨(i,t),yN.2 ⟨h1,h2⟩,rfl⟩),h3⟩,rfl⟩
theorem LD {s:State} (h:Fab s) {n id:Int} (hm:id∈fO s n):0≤id∧id.toNat<s.threads.length∧Ar (me s id):=by
  obtain ⟨i,t,h1,h2,_,rfl⟩:=(FI h).1 hm
  obtain ⟨h3,h4⟩:=F7.1 h1
  refine ⟨by omega,by simpa using h3,?_⟩
  have:me s (i:Int)=t:=by unfold me; rw [Int.toNat_natCast,E7,h1]; rfl
  rw [this]; exact (Zp h2).1
theorem JN {s:State} {m:Int} (h:Fab s) (h0:0≤m) (h1:m≤1099511627776):Fab (rG s m):=⟨h.room,h.word,h.len,h.slot,h.sends,h.recvs,h.fl,h.el,h.full,h.empty,h0,h1,h.thl,h.thr⟩
theorem Zn {s:State} {n:Int} (h:Fab s) (h0:0≤n) (h1:n≤1099511627776 - s.now):Fab (gC (rG s (s.now+n)) (fO s n)) :=
  Ip _ (Sb s n) (fun id hm=>LD h hm) (JN h (by have:=h.now0; omega) (by omega))
end Go.Sak
namespace Go.Sak
open Go Go.RowKit Go.Proofs
set_option linter.unusedVariables false
set_option linter.unusedSimpArgs false
set_option maxRecDepth 10000
set_option maxHeartbeats 8000000
def ZS:AFn:=⟨15,(.seq (.reg [o1 1 (.box 33 0),o1 2 (.mv (ci 0)),o1 3 (.mv (.const (.bool false)))]) (.seq (.reg [o1 7 (.ld 20 true 1),o1 8 (.call 21 [7]),o1 9 (.call 57 [8]),o1 6 (.mv 9),o1 10 (.ext 6 0),o1 11 (.ext 6 1),o1 4 (.alloc 51 [(.int .i64 0),(.int .i64 0)]),o2 (.st 2 4 10),o1 5 (.mv 11)]) (.seq (.reg [o1 12 (.faddr 0 4),o1 13 (.ld 1 false 12),o1 14 (.mv 5),o1 2 (.mv 13),o1 3 (.mv 14)]) .ret))),[(2,none),(3,none)]⟩
theorem Tk:xf Tryz.prog 20=some ZS:=by kernel_rfl
theorem JW {s:State} {n:Int} (hb:Bd s 100000):cX Tryz.prog 16 [.agg (bR s),.int .i64 n] (.tup [.agg (bR (jP s n).1),.slv 1 ((jP s n).2.1.map aS),.int .i64 (jP s n).2.2],[],[]):=by
  unfold jP
  split
  · rename_i h; exact JX hb h
  · rename_i h
    have h':bZ s=true:=by simpa using h
    split
    · rename_i h2
      by_cases h3:n<0
      · exact JY hb h' h3
      · exact JZ hb h' h3 (h2.resolve_left h3)
    · rename_i h2
      exact JV hb h' (fun e=>h2 (.inl e)) (fun e=>h2 (.inr e))
theorem Zm {s:State} {n:Int} (h:¬ (jP s n).2.2=0):(jP s n).1=s∧(jP s n).2.1=[]∧decide ((jP s n).2.2=20)=!bZ s:=by
  unfold jP at h ⊢
  split
  · rename_i h2; simp [h2]
  · rename_i h2
    have h2':bZ s=true:=by simpa using h2
    rw [if_neg h2] at h
    split
    · simp [h2']
    · rename_i h3; rw [if_neg h3] at h; exact absurd rfl h
theorem Md {s:State} {n:Int} (h:(jP s n).2.2=0):bZ s=true∧0≤n∧n≤1099511627776 - s.now∧jP s n=(gC (rG s (s.now+n)) (fO s n),fO s n,0):=by
  unfold jP at h ⊢
  split at h
  · cases h
  · split at h
    · cases h
    · rename_i h1 h2
      rw [if_neg h1,if_neg h2]
      exact ⟨by simpa using h1,by omega,by omega,rfl⟩
theorem Eg {s:State} {k:Nat} (h:HY s=true) (hk:200≤k):Bd s k:=(Lm h).mono hk
theorem gO (a:AV) (l:List AV) (o:Nat) (v:List AV):aJ (a :: l) o v=(a :: l).take o ++ v ++ (a :: l).drop (o+v.length):=rfl
theorem iK (s u:State):aJ (bR u) 0 (bR s)=bR s:=rfl
end Go.Sak
