/- Part T30 of the proofs about the program: K29, KX, K30. Conditions: none. -/
import Derived.Test.YtahdilehajdhgaaGreatT23
import Derived.Test.YtahdilehajdhgaaGreatT24
import Derived.Test.YtahdilehajdhgaaGreatT26
import Derived.Test.YtahdilehajdhgaaGreatT27
import Derived.Test.YtahdilehajdhgaaGreatT111
open Bool renaming and_eq_true→E0
open Go.Sak.Config renaming mk→E4
open Go.Sak.Event renaming mk→D8
open Go.Sak.State renaming mk→E5
open Go.Sak.Word renaming mk→E9
namespace Go.Sak
open Go Go.RowKit Go.Proofs
set_option linter.unusedVariables false
set_option linter.unusedSimpArgs false
set_option maxRecDepth 10000
set_option maxHeartbeats 8000000
theorem nM {s:State}:cM s (-1)=s:=if_neg (by simp [cN])
theorem IP {s:State} {id:Int} (hc:cN s id=true):0≤(me s id).pc∧(me s id).pc≤11:=by
  simp only [cN,E0,decide_eq_true_eq] at hc
  obtain ⟨⟨hc,h0⟩,h1⟩:=hc
  have ha:s.threads.any (fun t=>!cZ t)=false:=by
    simp only [bZ,E0,Bool.not_eq_true'] at hc
    exact hc.2
  have hm:me s id∈s.threads:=iB (by omega)
  have ht:cZ (me s id)=true:=by
    have:=List.any_eq_false.1 ha _ hm
    simpa using this
  simp only [cZ,jO,cD,E0,decide_eq_true_eq] at ht
  omega
theorem Uw {aW aV:Int} {aN aX:Int} {aG aO:Int} {aA:Bool} {bT bV bU:Int} {aB:List Slot} {aD aC:List Int} {aZ:Int} {aT:List Int} {bA:Int} {aU:List Int} {aL:Int} {aE:List Thread} {aK:List Entry} {id:Int} (h1:aB.length≤100000000) (h2:aD.length≤100000000) (h3:aC.length≤100000000) (h4:aT.length≤100000000) (h5:aU.length≤100000000) (h6:aE.length≤100000000) (h7:aK.length≤100000000) (hI:nQ (E5 (E4 aW aV aN aX aG aO aA) (E9 bT bV bU) aB aD aC (D8 aZ aT) (D8 bA aU) aL aE aK) id=false):cX Tryz.prog 189 [.agg [.int .i64 aW,.int .i64 aV,.int .i64 aN,.int .i64 aX,.int .i64 aG,.int .i64 aO,.bool aA,.int .i64 bT,.int .i64 bV,.int .i64 bU,.slv 2 (aB.map cU),.slv 1 (aD.map aS),.slv 1 (aC.map aS),.int .i64 aZ,.slv 1 (aT.map aS),.int .i64 bA,.slv 1 (aU.map aS),.int .i64 aL,.slv 11 (aE.map bH),.slv 5 (aK.map cO)],.int .i64 id] (.agg (bR (E5 (E4 aW aV aN aX aG aO aA) (E9 bT bV bU) aB aD aC (D8 aZ aT) (D8 bA aU) aL aE aK)),[],[]):=by
  refine aI bP xK (by simp [lM]) fun hw _=>?_
  clear hw
  repeat' with_reducible first|refine aQ (fun h=>?_) (fun h=>?_)|refine bB (fun h=>?_) (fun h=>?_)|refine aF (fun h=>?_) (fun h=>?_)|refine aH (fun h=>?_) (fun h=>?_)|refine FN ?_ ?_ ?_ ?_ rfl ?_|refine aR ?_ ?_|refine bC ?_ ?_|refine bM ?_ ?_|refine IA ?_ ?_ ?_|refine L1 ?_ ?_|refine L2 ?_ ?_|refine L3 ?_ ?_ ?_ ?_|refine L4 ?_ ?_|refine L5 ?_ ?_ ?_ ?_ ?_|refine L6 ?_ ?_ ?_ ?_ ?_|refine P0 (Nj ?_ ?_ ?_ ?_ ?_ ?_ ?_) ?_ ?_ ?_|refine P0 (lY ?_ ?_ ?_ ?_ ?_ ?_ ?_) ?_ ?_ ?_|simp -implicitDefEqProofs only [lM,qA,bN,bD,bO,aJ,aP,qU,List.reduceReplicate,Nat.reduceAdd,Nat.reduceSub,Nat.reduceLeDiff,Nat.reduceEqDiff,Nat.reduceMul,reduceIte,reduceCtorEq,qI,Nat.reduceLT,Nat.reduceBEq,cL,Int.toNat_natCast,bH,bR,dM,hI,nM, *]
  all_goals first
    | omega
    | exact Wk.refl _
    | skip

theorem KA {aW aV:Int} {aN aX:Int} {aG aO:Int} {aA:Bool} {bT bV bU:Int} {aB:List Slot} {aD aC:List Int} {aZ:Int} {aT:List Int} {bA:Int} {aU:List Int} {aL:Int} {aE:List Thread} {aK:List Entry} {id:Int} (h1:aB.length≤100000000) (h2:aD.length≤100000000) (h3:aC.length≤100000000) (h4:aT.length≤100000000) (h5:aU.length≤100000000) (h6:aE.length≤100000000) (h7:aK.length≤100000000):cX Tryz.prog 189 [.agg [.int .i64 aW,.int .i64 aV,.int .i64 aN,.int .i64 aX,.int .i64 aG,.int .i64 aO,.bool aA,.int .i64 bT,.int .i64 bV,.int .i64 bU,.slv 2 (aB.map cU),.slv 1 (aD.map aS),.slv 1 (aC.map aS),.int .i64 aZ,.slv 1 (aT.map aS),.int .i64 bA,.slv 1 (aU.map aS),.int .i64 aL,.slv 11 (aE.map bH),.slv 5 (aK.map cO)],.int .i64 id] (.agg (bR (oR (E5 (E4 aW aV aN aX aG aO aA) (E9 bT bV bU) aB aD aC (D8 aZ aT) (D8 bA aU) aL aE aK) id)),[],[]):=by
  by_cases hI:nQ (E5 (E4 aW aV aN aX aG aO aA) (E9 bT bV bU) aB aD aC (D8 aZ aT) (D8 bA aU) aL aE aK) id=true
  · have hp:=IP (s:=(E5 (E4 aW aV aN aX aG aO aA) (E9 bT bV bU) aB aD aC (D8 aZ aT) (D8 bA aU) aL aE aK)) (id:=id) (by simp only [nQ,E0] at hI; exact hI.1.1)
    simp only [me] at hp
    have hs:oR (E5 (E4 aW aV aN aX aG aO aA) (E9 bT bV bU) aB aD aC (D8 aZ aT) (D8 bA aU) aL aE aK) id=(match (aE.getD id.toNat default).pc.toNat with | 0=>Lz (E5 (E4 aW aV aN aX aG aO aA) (E9 bT bV bU) aB aD aC (D8 aZ aT) (D8 bA aU) aL aE aK) id | 1=>vN (E5 (E4 aW aV aN aX aG aO aA) (E9 bT bV bU) aB aD aC (D8 aZ aT) (D8 bA aU) aL aE aK) id | 2=>Cu (E5 (E4 aW aV aN aX aG aO aA) (E9 bT bV bU) aB aD aC (D8 aZ aT) (D8 bA aU) aL aE aK) id | 3=>vO (E5 (E4 aW aV aN aX aG aO aA) (E9 bT bV bU) aB aD aC (D8 aZ aT) (D8 bA aU) aL aE aK) id | 4=>rD (E5 (E4 aW aV aN aX aG aO aA) (E9 bT bV bU) aB aD aC (D8 aZ aT) (D8 bA aU) aL aE aK) id | 5=>xF (E5 (E4 aW aV aN aX aG aO aA) (E9 bT bV bU) aB aD aC (D8 aZ aT) (D8 bA aU) aL aE aK) id | 6=>rF (E5 (E4 aW aV aN aX aG aO aA) (E9 bT bV bU) aB aD aC (D8 aZ aT) (D8 bA aU) aL aE aK) id | 7=>vL (E5 (E4 aW aV aN aX aG aO aA) (E9 bT bV bU) aB aD aC (D8 aZ aT) (D8 bA aU) aL aE aK) id | 8=>rE (E5 (E4 aW aV aN aX aG aO aA) (E9 bT bV bU) aB aD aC (D8 aZ aT) (D8 bA aU) aL aE aK) id | 9=>Ct (E5 (E4 aW aV aN aX aG aO aA) (E9 bT bV bU) aB aD aC (D8 aZ aT) (D8 bA aU) aL aE aK) id | 10=>vM (E5 (E4 aW aV aN aX aG aO aA) (E9 bT bV bU) aB aD aC (D8 aZ aT) (D8 bA aU) aL aE aK) id | 11=>nW (E5 (E4 aW aV aN aX aG aO aA) (E9 bT bV bU) aB aD aC (D8 aZ aT) (D8 bA aU) aL aE aK) id | _=>(E5 (E4 aW aV aN aX aG aO aA) (E9 bT bV bU) aB aD aC (D8 aZ aT) (D8 bA aU) aL aE aK)):=by
      unfold oR
      rw [if_neg (by simp [hI])]
      rfl
    rw [hs]
    have hc:(aE.getD id.toNat default).pc=0∨(aE.getD id.toNat default).pc=1∨(aE.getD id.toNat default).pc=2∨(aE.getD id.toNat default).pc=3∨(aE.getD id.toNat default).pc=4∨(aE.getD id.toNat default).pc=5∨(aE.getD id.toNat default).pc=6 ∨
      (aE.getD id.toNat default).pc=7∨(aE.getD id.toNat default).pc=8∨(aE.getD id.toNat default).pc=9∨(aE.getD id.toNat default).pc=10∨(aE.getD id.toNat default).pc=11:=by omega
    rcases hc with hc | hc | hc | hc | hc | hc | hc | hc | hc | hc | hc | hc
    · rw [hc]; exact Um h1 h2 h3 h4 h5 h6 h7 hI hc
    · rw [hc]; exact Un h1 h2 h3 h4 h5 h6 h7 hI hc
    · rw [hc]; exact Uo h1 h2 h3 h4 h5 h6 h7 hI hc
    · rw [hc]; exact Up h1 h2 h3 h4 h5 h6 h7 hI hc
    · rw [hc]; exact Uq h1 h2 h3 h4 h5 h6 h7 hI hc
    · rw [hc]; exact Ur h1 h2 h3 h4 h5 h6 h7 hI hc
    · rw [hc]; exact Us h1 h2 h3 h4 h5 h6 h7 hI hc
    · rw [hc]; exact Ut h1 h2 h3 h4 h5 h6 h7 hI hc
    · rw [hc]; exact Uu h1 h2 h3 h4 h5 h6 h7 hI hc
    · rw [hc]; exact Uv h1 h2 h3 h4 h5 h6 h7 hI hc
    · rw [hc]; exact Qw h1 h2 h3 h4 h5 h6 h7 hI hc
    · rw [hc]; exact Qx h1 h2 h3 h4 h5 h6 h7 hI hc
  · have hs:oR (E5 (E4 aW aV aN aX aG aO aA) (E9 bT bV bU) aB aD aC (D8 aZ aT) (D8 bA aU) aL aE aK) id=(E5 (E4 aW aV aN aX aG aO aA) (E9 bT bV bU) aB aD aC (D8 aZ aT) (D8 bA aU) aL aE aK):=by unfold oR; rw [if_pos (by simp [hI])]
    rw [hs]
    exact Uw h1 h2 h3 h4 h5 h6 h7 (by simpa using hI)

set_option maxHeartbeats 8000000
theorem jQ {s:State} {k:Nat} {i:Int} {t:Thread} (h:Bd s k):Bd (dD s i t) k:=by unfold Bd dD at *; simp; omega
theorem DM {s:State} {k:Nat} {i a r g:Int} (h:Bd s k):Bd (eO s i a r g) (k+1):=by
  unfold eO; split
  · unfold Bd logged dD at *; simp; omega
  · exact h.mono (by omega)
theorem Fu {s:State} {k:Nat} {i:Int} (h:Bd s k):Bd (cM s i) k:=by
  unfold cM; split
  · exact jQ h
  · exact h
theorem fR {s:State} {k:Nat} {i p:Int} (h:Bd s k):Bd (kN s i p) k:=jQ h
theorem Ft {s:State} {k:Nat} {i:Int} (h:Bd s k):Bd (vJ s i) k:=jQ h
theorem sK {s:State} {k:Nat} {i a r g p:Int} (h:Bd s k):Bd (gE s i a r g p) (k+1):=fR (DM h)
theorem jU {s:State} {k:Nat} {i r p:Int} (h:Bd s k):Bd (fZ s i r p) (k+1):=sK h
theorem pX {s:State} {k:Nat} {w:Word} (h:Bd s k):Bd (cK s w) k:=h
theorem Az {s:State} {k:Nat} {l:List Slot} (h:Bd s k) (hl:l.length≤k):Bd (cR s l) k:=by unfold Bd cR at *; simp; omega
theorem Hq {s:State} {k:Nat} {l:List Int} (h:Bd s k) (hl:l.length≤k):Bd (eJ s l) k:=by unfold Bd eJ at *; simp; omega
theorem Ho {s:State} {k:Nat} {l:List Int} (h:Bd s k) (hl:l.length≤k):Bd (eI s l) k:=by unfold Bd eI at *; simp; omega
theorem Fs {s:State} {k:Nat} {e:Event} (h:Bd s k) (hl:e.ln.length≤k):Bd (cQ s e) k:=by unfold Bd cQ at *; simp; omega
theorem Ay {s:State} {k:Nat} {e:Event} (h:Bd s k) (hl:e.ln.length≤k):Bd (cH s e) k:=by unfold Bd cH at *; simp; omega
theorem vD {l:List Int} {id:Int}:(iD l id).1.length≤l.length+1:=by
  unfold iD; split
  · simp
  · split <;> simp
theorem Ce {l:List Int} {id:Int}:(iY l id).1.length≤l.length:=by
  unfold iY; split
  · exact Nat.le_refl _
  · exact List.length_eraseIdx_le ..
theorem Dp {l:List Slot} {p x:Int}:(gP l p x).1.length=l.length:=by
  unfold gP; split
  · rfl
  · split <;> simp
theorem sC {l:List Slot} {p:Int}:(eY l p).1.length=l.length:=by
  unfold eY; split
  · rfl
  · split <;> simp
theorem zR {e:Event} {a b:Int}:(kG e a b).1.ln.length≤e.ln.length+1:=by
  unfold kG; split
  · simp
  · split
    · simp
    · exact vD
theorem Uh {s : State} {k:Nat} {id:Int} (h:Bd s k):Bd (oR s id) (k+1):=by
  have h':=h.mono (Nat.le_succ k)
  have hb:=h
  unfold Bd at hb
  obtain ⟨b1,b2,b3,b4,b5,b6,b7⟩:=hb
  unfold oR
  split
  · exact h'
  · split
    · exact fR (Hq h' (by have:=@vD s.sends id; omega))
    · unfold vN; split
      · exact fR h'
      · split
        · exact jU h
        · exact Ft h'
    · unfold Cu; split
      · exact fR (jQ h')
      · split
        · unfold Cs; split
          · exact jU h
          · split
            · exact fR (jQ h')
            · split
              · exact jU h
              · split
                · exact jU h
                · split
                  · exact fR h'
                  · exact Ft h'
        · exact jU h
    · unfold vO; split
      · exact fR (Az h' (by rw [Dp]; omega))
      · exact h'
    · unfold rD; simp only []; split
      · exact sK (pX h)
      · split
        · exact fR (pX h')
        · exact jU (pX h)
    · exact fR (jQ h')
    · unfold rF; simp only []
      have he:Bd (cH s (fI s.empty).1) (k+1):=Ay h' (by have:=@oT s.empty; omega)
      split
      · exact fR (Fu he)
      · exact fR he
    · unfold vL; split <;> exact fR h'
    · unfold rE; split
      · exact fR h'
      · simp only []
        have he:Bd (cQ s (kG s.full (me s id).seen id).1) (k+1):=Fs h' (by have:=@zR s.full (me s id).seen id; omega)
        split
        · exact jQ he
        · exact fR he
    · exact jQ (Hq h' (by have:=@Ce s.sends id; omega))
    · unfold vM; simp only []; split
      · exact fR (pX h')
      · exact sK (pX h)
    · unfold nW; split
      · exact fR (Az h' (by rw [sC]; omega))
      · exact fR h'
    · exact h'
set_option maxHeartbeats 8000000
theorem tP {s:State} {id:Int} (h:Bd s 100000000):cX Tryz.prog 189 [.agg (bR s),.int .i64 id] (.agg (bR (oR s id)),[],[]):=by
  obtain ⟨h1,h2,h3,h4,h5,h6,h7⟩:=h.all
  exact KA h1 h2 h3 h4 h5 h6 h7
end Go.Sak
