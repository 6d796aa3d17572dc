/- Part T116 of the proofs about the program: Rn. Conditions: none. -/
import Derived.Test.YtahdilehajdhgaaGreatT114
open Array renaming ext→X6,getD_eq_getD_getElem?→F0,getElem?_eq_getElem→M3,replicate→T7
namespace Go.Sak
open Go Go.RowKit Go.Shelf Go.Proofs
attribute [local go_sem] Oper.semAt_some
set_option linter.unusedVariables false
set_option linter.unusedSimpArgs false
set_option maxRecDepth 100000
set_option maxHeartbeats 4000000







theorem Hq:Tryz.f21.body=some (.seq (cdD 0) (.seq (cdD 1) (.seq (.seq (cdD 2) (.block 0 (.rangeFunc (.tmp 9) #[10,11] asgD bodyD))) (cdD 3)))):=by kernel_rfl
theorem YA {c:Ctx} {s:State} {vs:Array Value} (hvs:ARel c [.agg (bR s)] vs):ER c ([.agg (bR s)] ++ List.replicate 21 .und) (vs ++ T7 (Tryz.f21.ntmps - vs.size) undef)∧(vs ++ T7 (Tryz.f21.ntmps - vs.size) undef).size=22:=by
  have hsz:vs.size=1:=by simpa using hvs.1.symm
  rw [Tryz.ntmps21,hsz]
  refine ⟨⟨by simp [hsz],fun i x hi=>?_⟩,by simp [hsz]⟩
  cases i with
  | zero =>
    have:=hvs.2 0 x (by simpa using hi)
    simpa [F0,Array.getElem?_append,hsz] using this
  | succ i =>
    have h2:(List.replicate 21 AV.und)[i]?=some x:=by simpa using hi
    rw [(List.mem_replicate.1 (List.mem_of_getElem? h2)).2]; exact .und _
theorem NR {a:Array Value} (h:a.size=22):a=#[a.getD 0 dB,a.getD 1 dB,a.getD 2 dB,a.getD 3 dB,a.getD 4 dB,a.getD 5 dB,a.getD 6 dB,a.getD 7 dB,a.getD 8 dB,a.getD 9 dB,a.getD 10 dB,a.getD 11 dB,a.getD 12 dB,a.getD 13 dB,a.getD 14 dB,a.getD 15 dB,a.getD 16 dB,a.getD 17 dB,a.getD 18 dB,a.getD 19 dB,a.getD 20 dB,a.getD 21 dB]:=by
  apply X6
  · simp [h]
  · intro i h4 h5
    match i with
    | 0=>simp [h4]
    | 1=>simp [h4]
    | 2=>simp [h4]
    | 3=>simp [h4]
    | 4=>simp [h4]
    | 5=>simp [h4]
    | 6=>simp [h4]
    | 7=>simp [h4]
    | 8=>simp [h4]
    | 9=>simp [h4]
    | 10=>simp [h4]
    | 11=>simp [h4]
    | 12=>simp [h4]
    | 13=>simp [h4]
    | 14=>simp [h4]
    | 15=>simp [h4]
    | 16=>simp [h4]
    | 17=>simp [h4]
    | 18=>simp [h4]
    | 19=>simp [h4]
    | 20=>simp [h4]
    | 21=>simp [h4]
    | i+22=>simp at h5; omega
theorem Yl:Tryz.prog.follows .mixedOrders=true:=by kernel_rfl
theorem OL {s:State} (hb:Bd s 100000000) (hck:bZ s=false):cX Tryz.prog 21 [.agg (bR s)] (.slv 2 [],[],[]):=by
  refine ⟨⟨_,Tryz.func21,by kernel_rfl,by kernel_rfl⟩,fun c hc hm hU vs hvs=>?_⟩
  obtain ⟨he0,hz0⟩:=YA hvs
  refine calls_of_wp Tryz.func21 Hq (wp_seq ?_)
  refine pU Yl UF (Nat.le_refl 1) (OO hb) c c _ _ hU hc (St.refl c) hm (fun n hn=>.inl hn) he0 hz0 rfl ?_
  rintro e env' m' b' c1 a1 ⟨rfl,rfl,rfl,rfl⟩ hb1 g1 s1 m1 u1 e1 z1 d1
  refine wp_seq ?_
  refine pU Yl UG hb1 (WH hb hck) c c1 a1 _ hU g1 s1 m1 u1 e1 z1 d1 ?_
  rintro e env' m' b' c2 a2 ⟨rfl,rfl,rfl,rfl⟩ hb2 g2 s2 m2 u2 e2 z2 d2
  refine ⟨d2,?_⟩
  obtain ⟨z,hz1,hz2⟩:=zL (fn:=Tryz.f21) (qs:=[(2,some (1,false))]) (l:=[.slnil]) g2 e2 (by kernel_rfl) (by rw [m2]; rfl)
  obtain ⟨c3,w3,g3,s3,m3,u3,e3⟩:=SubS.step (b0:=1) (dead:=1) (Z:=[]) (σ:=[]) (env:=[.slnil]) (m:=[(1,.rows 33 20 [bR s]),(17,.rows 48 1 [[.slnil]])]) (b:=97) (by simp [stOk]) rfl c c2 #[z] hU g2 s2 m2 u2 ⟨rfl,fun i x hi=>by
    cases i with
    | zero=>simp at hi; subst hi; exact hz2
    | succ i=>simp at hi⟩
  refine ⟨z,hz1,c3,z,rfl,w3,g3,s3,m3.trans (by simp [stM,lk,ups]),fun n hn=>?_,Wk.nil 2 _ _ ?_⟩
  · rcases u3 n hn with h | h
    · exact .inr h
    · exact .inl ⟨h.1,by omega⟩
  · have:=e3.2 0 .slnil rfl
    simpa using this
theorem OK {s:State} (hb:Bd s 100000) (hck:bZ s=true):cX Tryz.prog 21 [.agg (bR s)] (.slv 2 ((pJ (iB s.threads s.threads.length)).map cC),[],[]):=by
  refine ⟨⟨_,Tryz.func21,by kernel_rfl,by kernel_rfl⟩,fun c hc hm hU vs hvs=>?_⟩
  have hb8:=hb.mono (n:=100000000) (by omega)
  have hl:s.threads.length≤100000:=hb.2.2.2.2.2.1
  have hown:=Cl hm
  obtain ⟨he0,hz0⟩:=YA hvs
  refine (callsIn_wide (n:=5)).1 (callsIn_of_wp_marks Tryz.func21 Hq trivial ?_ rfl)
  refine wpIn_seq (wpIn_wide.2 ?_)
  refine pU Yl UF (Nat.le_refl 1) (OO hb8) c c _ _ hU hc (St.refl c) hm (fun n hn=>.inl hn) he0 hz0 rfl ?_
  rintro e env' m' b' c1 a1 ⟨rfl,rfl,rfl,rfl⟩ hb1 g1 s1 m1 u1 e1 z1 d1
  refine wpIn_seq (wpIn_wide.2 ?_)
  refine pU Yl UG hb1 (WI hb8 hck) c c1 a1 _ hU g1 s1 m1 u1 e1 z1 d1 ?_
  rintro e env' m' b' c2 a2 ⟨rfl,rfl,rfl,rfl⟩ hb2 g2 s2 m2 u2 e2 z2 d2
  refine wpIn_seq (wpIn_seq (wpIn_wide.2 ?_))
  refine pU Yl XR hb2 (WG hb8) c c2 a2 _ hU g2 s2 m2 u2 e2 z2 d2 ?_
  rintro e env' m' b' c3 a3 ⟨rfl,rfl,rfl,rfl⟩ hb3 g3 s3 m3 u3 e3 z3 d3
  refine wpIn_block ?_
  obtain ⟨ts3,ds3⟩:=a3
  simp only at e3 z3 d3
  subst d3
  clear g1 s1 m1 u1 e1 z1 d1 g2 s2 m2 u2 e2 z2 d2 hz0 he0 hvs
  have L17:c3.L 17:=by rw [Ctx.L,m3]; rfl
  have L97:c3.L 97:=by rw [Ctx.L,m3]; rfl
  obtain ⟨cs,h1,-,-,-,-,h7⟩:=g3.rows 17 _ _ _ (by rw [m3]; rfl)
  obtain ⟨cs2,k1,k2,k3,k4,-,k7⟩:=g3.rows 97 33 20 [bR s] (by rw [m3]; rfl)
  have t2:ts3.getD 2 dB=.pointer (some ⟨(c3.ρ 17).blk,0,none⟩):=by
    have:=e3.2 2 (.ptr 17 0 0) rfl
    generalize ts3.getD 2 dB=v at this
    cases this with
    | ptr _ _ _ a hU hL=>rw [hL L17]; simp
  have t9 : ts3.getD 9 dB=.func (.func 103) #[] #[.pointer (some ⟨(c3.ρ 97).blk,0,none⟩)]:=by
    have:=e3.2 9 (.fn (.func 103) [] [.ptr 97 0 0]) rfl
    generalize ts3.getD 9 dB=v at this
    cases this with
    | fn _ _ _ vs us j1 j2 j3 j4 =>
      have hv:vs=#[]:=Array.eq_empty_of_size_eq_zero j1.symm
      have hu1:us.size=1:=j2.symm
      have hu:us=#[us.getD 0 dB]:=by
        apply X6
        · simp [hu1]
        · intro i h4 h5
          match i with
          | 0=>simp [h4]
          | i+1=>simp at h5
      have hp:=j4 0 (.ptr 97 0 0) rfl
      rw [hv,hu]
      generalize us.getD 0 dB=v at hp
      cases hp with
      | ptr _ _ _ a hU hL=>rw [hL L97]; simp
  obtain ⟨ob,hob⟩:∃ ob,ob=(c3.ρ 17).blk:=⟨_,rfl⟩
  obtain ⟨sb,hsb⟩:∃ sb,sb=(c3.ρ 97).blk:=⟨_,rfl⟩
  have q1:ob<c3.w.heap.size:=hob ▸ g3.lt 17 L17
  have q2:sb≠ob:=fun e=>by have:=g3.inj 97 17 L97 L17 (by rw [← hsb,← hob,e]); omega
  have q3:c.w.heap.size≤ob:=by
    rcases Nat.lt_or_ge ob c.w.heap.size with h | h
    · exact absurd (s3.own ob h ⟨17,L17,hob.symm⟩) (hown ob)
    · exact h
  have hv18:=((k7 0 (bR s) rfl).2 18 (.slv 11 (s.threads.map bH)) rfl).2
  simp only [Nat.zero_mul,Nat.zero_add] at hv18
  obtain ⟨sa,cap,e18,hts,hir⟩:=Mf hv18
  have hsz2:18<cs2.size:=by rw [k3]; simp at k4; omega
  have e18':cs2[18]?=some (.slice sa s.threads.length cap):=by
    rw [← e18,F0,M3 hsz2]; rfl
  have hz0':cs[0]?=some (.slice none 0 0):=by
    have h8:=((h7 0 [.slnil] rfl).2 0 .slnil rfl).2
    simp only [Nat.zero_mul,Nat.zero_add] at h8
    have h9:0<cs.size:=by
      rcases Nat.eq_zero_or_pos cs.size with h | h
      · exfalso
        obtain ⟨cs',h1',-,h3',h4',-,-⟩:=g3.rows 17 48 1 [[.slnil]] (by rw [m3]; rfl)
        rw [h1] at h1'
        obtain rfl:cs=cs':=by injection h1' with h1'; injection h1'
        simp at h4'; omega
      · exact h
    cases hc0:cs[0]? with
    | none=>rw [M3 h9] at hc0; cases hc0
    | some v =>
      rw [F0,hc0] at h8
      simp only [Option.getD_some] at h8
      cases h8; rfl
  rw [← hob] at h1 t2
  rw [← hsb] at k1 t9
  have hTW:TW sb sa cap s.threads c3.w:=⟨by rw [World.cell?,k1]; exact e18',fun i t hi=>by
    obtain ⟨ad,p1,p2,p3⟩:=hts i t hi
    exact ⟨ad,p1,p3⟩⟩
  have hsa:∀ (i:Nat) (t:Thread),s.threads[i]?=some t→∀ ad,sa=some ad→ad.block≠ob:=fun i t hi ad had e=>by
    obtain ⟨ad',p1,p2,p3⟩:=hts i t hi
    rw [had] at p1
    obtain rfl:=Option.some.inj p1
    exact p2 (.inr ⟨17,L17,by rw [← hob,e]⟩)
  have hts3:=NR z3
  rw [t2,t9] at hts3
  rw [hts3]
  clear k1 k2 k3 k4 k7 h7 e18 e18' hv18 hts e3 z3 t2 t9 hts3
  refine Li _ _ _ _ _ _ _ _ _ _ _ _ _ _ _ _ _ _ _ _ q1 h1 hz0' hTW q2 hsa hl hir (fun W hW hd=>?_)
  obtain ⟨w1,w2,w3,z,cs3,w4,w4z,w5⟩:=hW
  have hkp:∀ b,b<c.w.heap.size→W.heap[b]?=c.w.heap[b]?:=fun b hb=>(w2 b (Nat.lt_of_lt_of_le hb s3.size) (by omega)).trans (s3.keep b hb (hown b))
  have hos:W.os=c.w.os∧W.tape=c.w.tape∧W.output=c.w.output:=⟨w3.1.trans s3.os,w3.2.1.trans s3.tape,w3.2.2.trans s3.output⟩
  have hsz:c.w.heap.size≤W.heap.size:=Nat.le_trans s3.size w1
  have kz:W.cell? ⟨ob,0,none⟩=some z:=by rw [World.cell?,w4]; exact w4z
  have kf:W.frozen? ⟨ob,0,none⟩=false:=by rw [World.frozen?,w4]; rfl
  obtain ⟨r1,r2,r3,rfl⟩:=Zw w5
  obtain ⟨N0,hN0⟩:∃ N0,N0=c3.w.heap.size:=⟨_,rfl⟩
  rw [← hN0] at hd w5 w1 q1
  have hN1:c.w.heap.size≤N0:=by rw [hN0]; exact s3.size
  have A:Aside ((∀ b,b<c.w.heap.size→W.heap[b]?=c.w.heap[b]?)∧(W.os=c.w.os∧W.tape=c.w.tape∧W.output=c.w.output)∧c.w.heap.size≤W.heap.size∧VR (Nn N0 W) (.slv 2 ((pJ (iB s.threads s.threads.length)).map cC)) (.slice r1 r2 r3)∧W.heap[ob]?=some (.cells cs3 48)∧cs3[0]?=some (.slice r1 r2 r3)∧Gd c∧c.m=AM.get []∧(∀ b,¬ c.own b)∧W.heap[N0]?=some (.deferred (some []))∧ob<N0∧c.w.heap.size≤ob∧N0≤W.heap.size∧c.w.heap.size≤N0):=⟨hkp,hos,hsz,w5,w4,w4z,hc,hm,hown,hd,q1,q3,w1,hN1⟩
  rw [← hN0]
  clear hkp hos hsz w5 w4 w4z hd w1 w2 w3 h1 hz0' hTW q2 hsa hl hir g3 s3 m3 u3 hc hm hown hN0 hN1 L17 L97 q1 q3 hob hsb
  show (cdD 3).wpIn Fence.wide 5 _ _ _ _
  rw [show cdD 3=_ from by dsimp only [cdD,Tryz.f21]]
  gi_wp2_with fail
  obtain ⟨hkp,hos,hsz,w5,w4,w4z,hc,hm,hown,hd,q1,q3,w1,hN1⟩:=A.out
  have hcs:=Dx (v:=.slice r1 r2 r3) w4 w4z
  have hd':(W.setCell ⟨ob,0,none⟩ (.slice r1 r2 r3)).heap[N0]?=some (.deferred (some [])):=(Below.heap_setCell W _ _ N0 (by simp; omega)).trans hd
  refine ⟨by simp,.inl ⟨_,_,rfl,run_takeDeferred hd',?_⟩⟩
  obtain ⟨Wf,hWf⟩:∃ Wf,(W.setCell ⟨ob,0,none⟩ (.slice r1 r2 r3)).putObj N0 (.deferred none)=Wf:=⟨_,rfl⟩
  have hoth:∀ b,b≠ob→b≠N0→Wf.heap[b]?=W.heap[b]?:=fun b h1 h2=>by rw [← hWf]; exact (World.putObj_heap_other h2).trans (Below.heap_setCell W _ _ b h1)
  have hwo:Wf.os=W.os∧Wf.tape=W.tape∧Wf.output=W.output∧Wf.heap.size=W.heap.size:=by rw [← hWf]; exact ⟨rfl,rfl,rfl,by simp [World.setCell]⟩
  have hc5:Wf.cell? ⟨ob,0,none⟩=some (.slice r1 r2 r3):=by
    rw [World.cell?,show Wf.heap[ob]?=some (.cells (cs3.setIfInBounds 0 (.slice r1 r2 r3)) 48) from by rw [← hWf]; exact (World.putObj_heap_other (by omega)).trans hcs.1]
    exact hcs.2
  rw [hWf]
  have kp:Keeps c.w Wf:=⟨by rw [hwo.2.2.2]; exact hsz,fun b hb=>(hoth b (by omega) (by omega)).trans (hkp b hb),hwo.1.trans hos.1,hwo.2.1.trans hos.2.1,hwo.2.2.1.trans hos.2.2⟩
  refine ⟨.slice r1 r2 r3,?_,{ c with w:=Wf },_,rfl,rfl,hc.keeps hm kp,(St.refl c).turn kp.2.2.1 kp.2.2.2.1 kp.2.2.2.2 kp.1 kp.2.1,hm,fun n hn=>.inr hn,?_⟩
  · simp [results,Tryz.f21,go_sem,hc5]
  · refine VR.to (c:=Nn N0 W) (c':={ c with w:=Wf }) (fun b _ hb1 hb2=>hb1 (Ec.2 ?_)) (Nat.le_of_eq hwo.2.2.2.symm) (fun a v hb1 hb2=>?_) w5 (nO _)
    · rcases hb2 with h | h
      · exact Nat.lt_of_lt_of_le (hc.flt b h) hN1
      · exact (Cl (c:={ c with w:=Wf }) hm b h).elim
    · rw [Ec] at hb1
      have hne:a.block≠N0:=by
        intro e
        have hb2':W.cell? a=some v:=hb2
        unfold World.cell? at hb2'
        rw [e,hd] at hb2'
        cases hb2'
      exact (World.cell?_of_block (hoth _ (by omega) hne)).trans hb2
theorem Vm {s:State} (hb:Bd s 100000):cX Tryz.prog 21 [.agg (bR s)] (.slv 2 ((kI s).map cC),[],[]):=by
  unfold kI
  cases hck:bZ s with
  | true=>exact OK hb hck
  | false=>exact OL (hb.mono (by omega)) hck
end Go.Sak
