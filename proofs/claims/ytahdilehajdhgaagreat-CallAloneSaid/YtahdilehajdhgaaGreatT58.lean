/- Part T58 of the proofs about the program: K60. Conditions: none. -/
import Derived.Test.YtahdilehajdhgaaGreatT52
import Derived.Test.YtahdilehajdhgaaGreatT55
import Derived.Test.YtahdilehajdhgaaGreatT57
import Derived.Test.YtahdilehajdhgaaGreatT30
open Go.Sak.Config renaming mk→E3
open Go.Sak.Event renaming mk→D7
open Go.Sak.State renaming mk→E4
open Go.Sak.Word renaming mk→E8
namespace Go.Sak
open Go Go.RowKit Go.Proofs
set_option linter.unusedVariables false
set_option linter.unusedSimpArgs false
set_option maxRecDepth 10000
set_option maxHeartbeats 8000000
theorem Vh {aW aV:Int} {aN aX:Int} {aG aO:Int} {aA:Bool} {bT bV bU:Int} {aB:List Slot} {aD aC:List Int} {aZ:Int} {aT:List Int} {bA:Int} {aU:List Int} {aL:Int} {aE:List Thread} {aK:List Entry} {id:Int} (h1:aB.length≤100000000) (h2:aD.length≤100000000) (h3:aC.length≤100000000) (h4:aT.length≤100000000) (h5:aU.length≤100000000) (h6:aE.length≤100000000) (h7:aK.length≤100000000) (hI:nI (E4 (E3 aW aV aN aX aG aO aA) (E8 bT bV bU) aB aD aC (D7 aZ aT) (D7 bA aU) aL aE aK) id=false):cX Tryz.prog 190 [.agg [.int .i64 aW,.int .i64 aV,.int .i64 aN,.int .i64 aX,.int .i64 aG,.int .i64 aO,.bool aA,.int .i64 bT,.int .i64 bV,.int .i64 bU,.slv 2 (aB.map cU),.slv 1 (aD.map aS),.slv 1 (aC.map aS),.int .i64 aZ,.slv 1 (aT.map aS),.int .i64 bA,.slv 1 (aU.map aS),.int .i64 aL,.slv 11 (aE.map bH),.slv 5 (aK.map cO)],.int .i64 id] (.agg (bR (E4 (E3 aW aV aN aX aG aO aA) (E8 bT bV bU) aB aD aC (D7 aZ aT) (D7 bA aU) aL aE aK)),[],[]):=by
  refine aI bP xK (by simp [lM]) fun hw _=>?_
  clear hw
  repeat' with_reducible first|refine aQ (fun h=>?_) (fun h=>?_)|refine bB (fun h=>?_) (fun h=>?_)|refine aF (fun h=>?_) (fun h=>?_)|refine aH (fun h=>?_) (fun h=>?_)|refine FN ?_ ?_ ?_ ?_ rfl ?_|refine aR ?_ ?_|refine bC ?_ ?_|refine bM ?_ ?_|refine IA ?_ ?_ ?_|refine L1 ?_ ?_|refine L2 ?_ ?_|refine L3 ?_ ?_ ?_ ?_|refine L4 ?_ ?_|refine L5 ?_ ?_ ?_ ?_ ?_|refine L6 ?_ ?_ ?_ ?_ ?_|refine P0 (Ni ?_ ?_ ?_ ?_ ?_ ?_ ?_) ?_ ?_ ?_|refine P0 (lY ?_ ?_ ?_ ?_ ?_ ?_ ?_) ?_ ?_ ?_|simp -implicitDefEqProofs only [lM,qA,bN,bD,bO,aJ,aP,qU,List.reduceReplicate,Nat.reduceAdd,Nat.reduceSub,Nat.reduceLeDiff,Nat.reduceEqDiff,Nat.reduceMul,reduceIte,reduceCtorEq,qI,Nat.reduceLT,Nat.reduceBEq,cL,Int.toNat_natCast,bH,bR,dM,hI,nL, *]
  all_goals first
    | omega
    | exact Wk.refl _
    | skip

theorem KA {aW aV:Int} {aN aX:Int} {aG aO:Int} {aA:Bool} {bT bV bU:Int} {aB:List Slot} {aD aC:List Int} {aZ:Int} {aT:List Int} {bA:Int} {aU:List Int} {aL:Int} {aE:List Thread} {aK:List Entry} {id:Int} (h1:aB.length≤100000000) (h2:aD.length≤100000000) (h3:aC.length≤100000000) (h4:aT.length≤100000000) (h5:aU.length≤100000000) (h6:aE.length≤100000000) (h7:aK.length≤100000000):cX Tryz.prog 190 [.agg [.int .i64 aW,.int .i64 aV,.int .i64 aN,.int .i64 aX,.int .i64 aG,.int .i64 aO,.bool aA,.int .i64 bT,.int .i64 bV,.int .i64 bU,.slv 2 (aB.map cU),.slv 1 (aD.map aS),.slv 1 (aC.map aS),.int .i64 aZ,.slv 1 (aT.map aS),.int .i64 bA,.slv 1 (aU.map aS),.int .i64 aL,.slv 11 (aE.map bH),.slv 5 (aK.map cO)],.int .i64 id] (.agg (bR (oL (E4 (E3 aW aV aN aX aG aO aA) (E8 bT bV bU) aB aD aC (D7 aZ aT) (D7 bA aU) aL aE aK) id)),[],[]):=by
  by_cases hI:nI (E4 (E3 aW aV aN aX aG aO aA) (E8 bT bV bU) aB aD aC (D7 aZ aT) (D7 bA aU) aL aE aK) id=true
  · have hp:=IO (s:=(E4 (E3 aW aV aN aX aG aO aA) (E8 bT bV bU) aB aD aC (D7 aZ aT) (D7 bA aU) aL aE aK)) (id:=id) (FB hI)
    simp only [me] at hp
    have hs:oL (E4 (E3 aW aV aN aX aG aO aA) (E8 bT bV bU) aB aD aC (D7 aZ aT) (D7 bA aU) aL aE aK) id=(match (aE.getD id.toNat default).pc.toNat with | 0=>Gp (E4 (E3 aW aV aN aX aG aO aA) (E8 bT bV bU) aB aD aC (D7 aZ aT) (D7 bA aU) aL aE aK) id | 1=>uY (E4 (E3 aW aV aN aX aG aO aA) (E8 bT bV bU) aB aD aC (D7 aZ aT) (D7 bA aU) aL aE aK) id | 2=>Bt (E4 (E3 aW aV aN aX aG aO aA) (E8 bT bV bU) aB aD aC (D7 aZ aT) (D7 bA aU) aL aE aK) id | 3=>Bu (E4 (E3 aW aV aN aX aG aO aA) (E8 bT bV bU) aB aD aC (D7 aZ aT) (D7 bA aU) aL aE aK) id | 4=>Ei (E4 (E3 aW aV aN aX aG aO aA) (E8 bT bV bU) aB aD aC (D7 aZ aT) (D7 bA aU) aL aE aK) id | 5=>wQ (E4 (E3 aW aV aN aX aG aO aA) (E8 bT bV bU) aB aD aC (D7 aZ aT) (D7 bA aU) aL aE aK) id | 6=>qR (E4 (E3 aW aV aN aX aG aO aA) (E8 bT bV bU) aB aD aC (D7 aZ aT) (D7 bA aU) aL aE aK) id | 7=>uX (E4 (E3 aW aV aN aX aG aO aA) (E8 bT bV bU) aB aD aC (D7 aZ aT) (D7 bA aU) aL aE aK) id | 8=>qP (E4 (E3 aW aV aN aX aG aO aA) (E8 bT bV bU) aB aD aC (D7 aZ aT) (D7 bA aU) aL aE aK) id | _=>qQ (E4 (E3 aW aV aN aX aG aO aA) (E8 bT bV bU) aB aD aC (D7 aZ aT) (D7 bA aU) aL aE aK) id):=by
      unfold oL
      rw [if_neg (by simp [hI])]
      rfl
    rw [hs]
    have hc:(aE.getD id.toNat default).pc=0∨(aE.getD id.toNat default).pc=1∨(aE.getD id.toNat default).pc=2∨(aE.getD id.toNat default).pc=3∨(aE.getD id.toNat default).pc=4∨(aE.getD id.toNat default).pc=5∨(aE.getD id.toNat default).pc=6∨(aE.getD id.toNat default).pc=7∨(aE.getD id.toNat default).pc=8∨(aE.getD id.toNat default).pc=9∨(aE.getD id.toNat default).pc=10∨(aE.getD id.toNat default).pc=11:=by omega
    rcases hc with hc | hc | hc | hc | hc | hc | hc | hc | hc | hc | hc | hc
    · rw [hc]; exact Uw h1 h2 h3 h4 h5 h6 h7 hI hc
    · rw [hc]; exact Ux h1 h2 h3 h4 h5 h6 h7 hI hc
    · rw [hc]; exact Uy h1 h2 h3 h4 h5 h6 h7 hI hc
    · rw [hc]; exact Uz h1 h2 h3 h4 h5 h6 h7 hI hc
    · rw [hc]; exact Va h1 h2 h3 h4 h5 h6 h7 hI hc
    · rw [hc]; exact Vb h1 h2 h3 h4 h5 h6 h7 hI hc
    · rw [hc]; exact Vc h1 h2 h3 h4 h5 h6 h7 hI hc
    · rw [hc]; exact Vd h1 h2 h3 h4 h5 h6 h7 hI hc
    · rw [hc]; exact Ve h1 h2 h3 h4 h5 h6 h7 hI hc
    · rw [hc]; exact Vg h1 h2 h3 h4 h5 h6 h7 hI hc
    · rw [hc]; exact Qx h1 h2 h3 h4 h5 h6 h7 hI hc
    · rw [hc]; exact Qy h1 h2 h3 h4 h5 h6 h7 hI hc
  · have hs:oL (E4 (E3 aW aV aN aX aG aO aA) (E8 bT bV bU) aB aD aC (D7 aZ aT) (D7 bA aU) aL aE aK) id=(E4 (E3 aW aV aN aX aG aO aA) (E8 bT bV bU) aB aD aC (D7 aZ aT) (D7 bA aU) aL aE aK):=by unfold oL; rw [if_pos (by simp [hI])]
    rw [hs]
    exact Vh h1 h2 h3 h4 h5 h6 h7 (by simpa using hI)

theorem tP {s:State} {id:Int} (h:Bd s 100000000):cX Tryz.prog 190 [.agg (bR s),.int .i64 id] (.agg (bR (oL s id)),[],[]):=by
  obtain ⟨h1,h2,h3,h4,h5,h6,h7⟩:=h.all
  exact KA h1 h2 h3 h4 h5 h6 h7
theorem Ue {s : State} {k:Nat} {id:Int} (h:Bd s k):Bd (oL s id) (k+1):=by
  have h':=h.mono (Nat.le_succ k)
  have hb:=h
  unfold Bd at hb
  obtain ⟨b1,b2,b3,b4,b5,b6,b7⟩:=hb
  unfold oL
  split
  · exact h'
  · split
    · exact fR (Hn h' (by have:=@vC s.recvs id; omega))
    · unfold uY; split
      · exact fR h'
      · split
        · exact jT h
        · exact Fs h'
    · unfold Bt; split
      · exact fR h'
      · split
        · unfold Bv; split
          · exact jT h
          · split
            · exact jT h
            · split
              · exact fR h'
              · exact Fs h'
        · exact jT h
    · unfold Bu; simp only []; split
      · exact sJ (jP (pW h))
      · split
        · exact fR h'
        · exact jT h
    · exact fR (Ay (jP h') (by rw [sB]; omega))
    · exact fR (jP h')
    · unfold qR; simp only []
      have he:Bd (cQ s (fI s.full).1) (k+1):=Fr h' (by have:=@oS s.full; omega)
      split
      · exact fR (Ft he)
      · exact fR he
    · unfold uX; split <;> exact fR h'
    · unfold qP; split
      · exact fR h'
      · simp only []
        have he:Bd (cH s (kF s.empty (me s id).seen id).1) (k+1):=Ax h' (by have:=@zQ s.empty (me s id).seen id; omega)
        split
        · exact jP he
        · exact fR he
    · exact jP (Hn h' (by have:=@Cd s.recvs id; omega))
end Go.Sak
