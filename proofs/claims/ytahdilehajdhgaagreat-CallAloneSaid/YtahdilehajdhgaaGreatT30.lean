/- Part T30 of the proofs about the program: K29, KX, K30. Conditions: none. -/
import Derived.Test.YtahdilehajdhgaaGreatT23
import Derived.Test.YtahdilehajdhgaaGreatT24
import Derived.Test.YtahdilehajdhgaaGreatT26
import Derived.Test.YtahdilehajdhgaaGreatT27
import Derived.Test.YtahdilehajdhgaaGreatT111
open Bool renaming and_eq_true→D9
open Go.Sak.Config renaming mk→E3
open Go.Sak.Event renaming mk→D7
open Go.Sak.State renaming mk→E4
open Go.Sak.Word renaming mk→E8
namespace Go.Sak
open Go Go.RowKit Go.Proofs
set_option linter.unusedVariables false
set_option linter.unusedSimpArgs false
set_option maxRecDepth 10000
set_option maxHeartbeats 8000000
theorem nL {s:State}:cM s (-1)=s:=if_neg (by simp [cN])
theorem IO {s:State} {id:Int} (hc:cN s id=true):0≤(me s id).pc∧(me s id).pc≤11:=by
  simp only [cN,D9,decide_eq_true_eq] at hc
  obtain ⟨⟨hc,h0⟩,h1⟩:=hc
  have ha:s.threads.any (fun t=>!cZ t)=false:=by
    simp only [bZ,D9,Bool.not_eq_true'] at hc
    exact hc.2
  have hm:me s id∈s.threads:=iA (by omega)
  have ht:cZ (me s id)=true:=by
    have:=List.any_eq_false.1 ha _ hm
    simpa using this
  simp only [cZ,jN,cD,D9,decide_eq_true_eq] at ht
  omega
theorem Uv {aW aV:Int} {aN aX:Int} {aG aO:Int} {aA:Bool} {bT bV bU:Int} {aB:List Slot} {aD aC:List Int} {aZ:Int} {aT:List Int} {bA:Int} {aU:List Int} {aL:Int} {aE:List Thread} {aK:List Entry} {id:Int} (h1:aB.length≤100000000) (h2:aD.length≤100000000) (h3:aC.length≤100000000) (h4:aT.length≤100000000) (h5:aU.length≤100000000) (h6:aE.length≤100000000) (h7:aK.length≤100000000) (hI:nP (E4 (E3 aW aV aN aX aG aO aA) (E8 bT bV bU) aB aD aC (D7 aZ aT) (D7 bA aU) aL aE aK) id=false):cX Tryz.prog 189 [.agg [.int .i64 aW,.int .i64 aV,.int .i64 aN,.int .i64 aX,.int .i64 aG,.int .i64 aO,.bool aA,.int .i64 bT,.int .i64 bV,.int .i64 bU,.slv 2 (aB.map cU),.slv 1 (aD.map aS),.slv 1 (aC.map aS),.int .i64 aZ,.slv 1 (aT.map aS),.int .i64 bA,.slv 1 (aU.map aS),.int .i64 aL,.slv 11 (aE.map bH),.slv 5 (aK.map cO)],.int .i64 id] (.agg (bR (E4 (E3 aW aV aN aX aG aO aA) (E8 bT bV bU) aB aD aC (D7 aZ aT) (D7 bA aU) aL aE aK)),[],[]):=by
  refine aI bP xJ (by simp [lL]) fun hw _=>?_
  clear hw
  repeat' with_reducible first|refine aQ (fun h=>?_) (fun h=>?_)|refine bB (fun h=>?_) (fun h=>?_)|refine aF (fun h=>?_) (fun h=>?_)|refine aH (fun h=>?_) (fun h=>?_)|refine FN ?_ ?_ ?_ ?_ rfl ?_|refine aR ?_ ?_|refine bC ?_ ?_|refine bM ?_ ?_|refine IA ?_ ?_ ?_|refine L1 ?_ ?_|refine L2 ?_ ?_|refine L3 ?_ ?_ ?_ ?_|refine L4 ?_ ?_|refine L5 ?_ ?_ ?_ ?_ ?_|refine L6 ?_ ?_ ?_ ?_ ?_|refine P0 (Ni ?_ ?_ ?_ ?_ ?_ ?_ ?_) ?_ ?_ ?_|refine P0 (lX ?_ ?_ ?_ ?_ ?_ ?_ ?_) ?_ ?_ ?_|simp -implicitDefEqProofs only [lL,qA,bN,bD,bO,aJ,aP,qU,List.reduceReplicate,Nat.reduceAdd,Nat.reduceSub,Nat.reduceLeDiff,Nat.reduceEqDiff,Nat.reduceMul,reduceIte,reduceCtorEq,qI,Nat.reduceLT,Nat.reduceBEq,cL,Int.toNat_natCast,bH,bR,dM,hI,nL, *]
  all_goals first
    | omega
    | exact Wk.refl _
    | skip

theorem JZ {aW aV:Int} {aN aX:Int} {aG aO:Int} {aA:Bool} {bT bV bU:Int} {aB:List Slot} {aD aC:List Int} {aZ:Int} {aT:List Int} {bA:Int} {aU:List Int} {aL:Int} {aE:List Thread} {aK:List Entry} {id:Int} (h1:aB.length≤100000000) (h2:aD.length≤100000000) (h3:aC.length≤100000000) (h4:aT.length≤100000000) (h5:aU.length≤100000000) (h6:aE.length≤100000000) (h7:aK.length≤100000000):cX Tryz.prog 189 [.agg [.int .i64 aW,.int .i64 aV,.int .i64 aN,.int .i64 aX,.int .i64 aG,.int .i64 aO,.bool aA,.int .i64 bT,.int .i64 bV,.int .i64 bU,.slv 2 (aB.map cU),.slv 1 (aD.map aS),.slv 1 (aC.map aS),.int .i64 aZ,.slv 1 (aT.map aS),.int .i64 bA,.slv 1 (aU.map aS),.int .i64 aL,.slv 11 (aE.map bH),.slv 5 (aK.map cO)],.int .i64 id] (.agg (bR (oQ (E4 (E3 aW aV aN aX aG aO aA) (E8 bT bV bU) aB aD aC (D7 aZ aT) (D7 bA aU) aL aE aK) id)),[],[]):=by
  by_cases hI:nP (E4 (E3 aW aV aN aX aG aO aA) (E8 bT bV bU) aB aD aC (D7 aZ aT) (D7 bA aU) aL aE aK) id=true
  · have hp:=IO (s:=(E4 (E3 aW aV aN aX aG aO aA) (E8 bT bV bU) aB aD aC (D7 aZ aT) (D7 bA aU) aL aE aK)) (id:=id) (by simp only [nP,D9] at hI; exact hI.1.1)
    simp only [me] at hp
    have hs:oQ (E4 (E3 aW aV aN aX aG aO aA) (E8 bT bV bU) aB aD aC (D7 aZ aT) (D7 bA aU) aL aE aK) id=(match (aE.getD id.toNat default).pc.toNat with | 0=>Ly (E4 (E3 aW aV aN aX aG aO aA) (E8 bT bV bU) aB aD aC (D7 aZ aT) (D7 bA aU) aL aE aK) id | 1=>vM (E4 (E3 aW aV aN aX aG aO aA) (E8 bT bV bU) aB aD aC (D7 aZ aT) (D7 bA aU) aL aE aK) id | 2=>Ct (E4 (E3 aW aV aN aX aG aO aA) (E8 bT bV bU) aB aD aC (D7 aZ aT) (D7 bA aU) aL aE aK) id | 3=>vN (E4 (E3 aW aV aN aX aG aO aA) (E8 bT bV bU) aB aD aC (D7 aZ aT) (D7 bA aU) aL aE aK) id | 4=>rC (E4 (E3 aW aV aN aX aG aO aA) (E8 bT bV bU) aB aD aC (D7 aZ aT) (D7 bA aU) aL aE aK) id | 5=>xE (E4 (E3 aW aV aN aX aG aO aA) (E8 bT bV bU) aB aD aC (D7 aZ aT) (D7 bA aU) aL aE aK) id | 6=>rE (E4 (E3 aW aV aN aX aG aO aA) (E8 bT bV bU) aB aD aC (D7 aZ aT) (D7 bA aU) aL aE aK) id | 7=>vK (E4 (E3 aW aV aN aX aG aO aA) (E8 bT bV bU) aB aD aC (D7 aZ aT) (D7 bA aU) aL aE aK) id | 8=>rD (E4 (E3 aW aV aN aX aG aO aA) (E8 bT bV bU) aB aD aC (D7 aZ aT) (D7 bA aU) aL aE aK) id | 9=>Cs (E4 (E3 aW aV aN aX aG aO aA) (E8 bT bV bU) aB aD aC (D7 aZ aT) (D7 bA aU) aL aE aK) id | 10=>vL (E4 (E3 aW aV aN aX aG aO aA) (E8 bT bV bU) aB aD aC (D7 aZ aT) (D7 bA aU) aL aE aK) id | 11=>nV (E4 (E3 aW aV aN aX aG aO aA) (E8 bT bV bU) aB aD aC (D7 aZ aT) (D7 bA aU) aL aE aK) id | _=>(E4 (E3 aW aV aN aX aG aO aA) (E8 bT bV bU) aB aD aC (D7 aZ aT) (D7 bA aU) aL aE aK)):=by
      unfold oQ
      rw [if_neg (by simp [hI])]
      rfl
    rw [hs]
    have hc:(aE.getD id.toNat default).pc=0∨(aE.getD id.toNat default).pc=1∨(aE.getD id.toNat default).pc=2∨(aE.getD id.toNat default).pc=3∨(aE.getD id.toNat default).pc=4∨(aE.getD id.toNat default).pc=5∨(aE.getD id.toNat default).pc=6 ∨
      (aE.getD id.toNat default).pc=7∨(aE.getD id.toNat default).pc=8∨(aE.getD id.toNat default).pc=9∨(aE.getD id.toNat default).pc=10∨(aE.getD id.toNat default).pc=11:=by omega
    rcases hc with hc | hc | hc | hc | hc | hc | hc | hc | hc | hc | hc | hc
    · rw [hc]; exact Ul h1 h2 h3 h4 h5 h6 h7 hI hc
    · rw [hc]; exact Um h1 h2 h3 h4 h5 h6 h7 hI hc
    · rw [hc]; exact Un h1 h2 h3 h4 h5 h6 h7 hI hc
    · rw [hc]; exact Uo h1 h2 h3 h4 h5 h6 h7 hI hc
    · rw [hc]; exact Up h1 h2 h3 h4 h5 h6 h7 hI hc
    · rw [hc]; exact Uq h1 h2 h3 h4 h5 h6 h7 hI hc
    · rw [hc]; exact Ur h1 h2 h3 h4 h5 h6 h7 hI hc
    · rw [hc]; exact Us h1 h2 h3 h4 h5 h6 h7 hI hc
    · rw [hc]; exact Ut h1 h2 h3 h4 h5 h6 h7 hI hc
    · rw [hc]; exact Uu h1 h2 h3 h4 h5 h6 h7 hI hc
    · rw [hc]; exact Qv h1 h2 h3 h4 h5 h6 h7 hI hc
    · rw [hc]; exact Qw h1 h2 h3 h4 h5 h6 h7 hI hc
  · have hs:oQ (E4 (E3 aW aV aN aX aG aO aA) (E8 bT bV bU) aB aD aC (D7 aZ aT) (D7 bA aU) aL aE aK) id=(E4 (E3 aW aV aN aX aG aO aA) (E8 bT bV bU) aB aD aC (D7 aZ aT) (D7 bA aU) aL aE aK):=by unfold oQ; rw [if_pos (by simp [hI])]
    rw [hs]
    exact Uv h1 h2 h3 h4 h5 h6 h7 (by simpa using hI)

set_option maxHeartbeats 8000000
theorem jP {s:State} {k:Nat} {i:Int} {t:Thread} (h:Bd s k):Bd (dD s i t) k:=by unfold Bd dD at *; simp; omega
theorem DL {s:State} {k:Nat} {i a r g:Int} (h:Bd s k):Bd (eO s i a r g) (k+1):=by
  unfold eO; split
  · unfold Bd logged dD at *; simp; omega
  · exact h.mono (by omega)
theorem Ft {s:State} {k:Nat} {i:Int} (h:Bd s k):Bd (cM s i) k:=by
  unfold cM; split
  · exact jP h
  · exact h
theorem fR {s:State} {k:Nat} {i p:Int} (h:Bd s k):Bd (kM s i p) k:=jP h
theorem Fs {s:State} {k:Nat} {i:Int} (h:Bd s k):Bd (vI s i) k:=jP h
theorem sJ {s:State} {k:Nat} {i a r g p:Int} (h:Bd s k):Bd (gD s i a r g p) (k+1):=fR (DL h)
theorem jT {s:State} {k:Nat} {i r p:Int} (h:Bd s k):Bd (fZ s i r p) (k+1):=sJ h
theorem pW {s:State} {k:Nat} {w:Word} (h:Bd s k):Bd (cK s w) k:=h
theorem Ay {s:State} {k:Nat} {l:List Slot} (h:Bd s k) (hl:l.length≤k):Bd (cR s l) k:=by unfold Bd cR at *; simp; omega
theorem Ho {s:State} {k:Nat} {l:List Int} (h:Bd s k) (hl:l.length≤k):Bd (eJ s l) k:=by unfold Bd eJ at *; simp; omega
theorem Hn {s:State} {k:Nat} {l:List Int} (h:Bd s k) (hl:l.length≤k):Bd (eI s l) k:=by unfold Bd eI at *; simp; omega
theorem Fr {s:State} {k:Nat} {e:Event} (h:Bd s k) (hl:e.ln.length≤k):Bd (cQ s e) k:=by unfold Bd cQ at *; simp; omega
theorem Ax {s:State} {k:Nat} {e:Event} (h:Bd s k) (hl:e.ln.length≤k):Bd (cH s e) k:=by unfold Bd cH at *; simp; omega
theorem vC {l:List Int} {id:Int}:(iC l id).1.length≤l.length+1:=by
  unfold iC; split
  · simp
  · split <;> simp
theorem Cd {l:List Int} {id:Int}:(iX l id).1.length≤l.length:=by
  unfold iX; split
  · exact Nat.le_refl _
  · exact List.length_eraseIdx_le ..
theorem Do {l:List Slot} {p x:Int}:(gO l p x).1.length=l.length:=by
  unfold gO; split
  · rfl
  · split <;> simp
theorem sB {l:List Slot} {p:Int}:(eY l p).1.length=l.length:=by
  unfold eY; split
  · rfl
  · split <;> simp
theorem zQ {e:Event} {a b:Int}:(kF e a b).1.ln.length≤e.ln.length+1:=by
  unfold kF; split
  · simp
  · split
    · simp
    · exact vC
theorem Ug {s : State} {k:Nat} {id:Int} (h:Bd s k):Bd (oQ s id) (k+1):=by
  have h':=h.mono (Nat.le_succ k)
  have hb:=h
  unfold Bd at hb
  obtain ⟨b1,b2,b3,b4,b5,b6,b7⟩:=hb
  unfold oQ
  split
  · exact h'
  · split
    · exact fR (Ho h' (by have:=@vC s.sends id; omega))
    · unfold vM; split
      · exact fR h'
      · split
        · exact jT h
        · exact Fs h'
    · unfold Ct; split
      · exact fR (jP h')
      · split
        · unfold Cr; split
          · exact jT h
          · split
            · exact fR (jP h')
            · split
              · exact jT h
              · split
                · exact jT h
                · split
                  · exact fR h'
                  · exact Fs h'
        · exact jT h
    · unfold vN; split
      · exact fR (Ay h' (by rw [Do]; omega))
      · exact h'
    · unfold rC; simp only []; split
      · exact sJ (pW h)
      · split
        · exact fR (pW h')
        · exact jT (pW h)
    · exact fR (jP h')
    · unfold rE; simp only []
      have he:Bd (cH s (fI s.empty).1) (k+1):=Ax h' (by have:=@oS s.empty; omega)
      split
      · exact fR (Ft he)
      · exact fR he
    · unfold vK; split <;> exact fR h'
    · unfold rD; split
      · exact fR h'
      · simp only []
        have he:Bd (cQ s (kF s.full (me s id).seen id).1) (k+1):=Fr h' (by have:=@zQ s.full (me s id).seen id; omega)
        split
        · exact jP he
        · exact fR he
    · exact jP (Ho h' (by have:=@Cd s.sends id; omega))
    · unfold vL; simp only []; split
      · exact fR (pW h')
      · exact sJ (pW h)
    · unfold nV; split
      · exact fR (Ay h' (by rw [sB]; omega))
      · exact fR h'
    · exact h'
set_option maxHeartbeats 8000000
theorem tO {s:State} {id:Int} (h:Bd s 100000000):cX Tryz.prog 189 [.agg (bR s),.int .i64 id] (.agg (bR (oQ s id)),[],[]):=by
  obtain ⟨h1,h2,h3,h4,h5,h6,h7⟩:=h.all
  exact JZ h1 h2 h3 h4 h5 h6 h7
end Go.Sak
