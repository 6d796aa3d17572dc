/- Part T58 of the proofs about the program: K60. Conditions: none. -/
import Derived.Test.YtahdilehajdhgaaGreatT52
import Derived.Test.YtahdilehajdhgaaGreatT55
import Derived.Test.YtahdilehajdhgaaGreatT57
import Derived.Test.YtahdilehajdhgaaGreatT30
open Go.Sak.Config renaming mk→E4
open Go.Sak.Event renaming mk→D8
open Go.Sak.State renaming mk→E5
open Go.Sak.Word renaming mk→E9
namespace Go.Sak
open Go Go.RowKit Go.Proofs
set_option linter.unusedVariables false
set_option linter.unusedSimpArgs false
set_option maxRecDepth 10000
set_option maxHeartbeats 8000000
theorem Vi {aW aV:Int} {aN aX:Int} {aG aO:Int} {aA:Bool} {bT bV bU:Int} {aB:List Slot} {aD aC:List Int} {aZ:Int} {aT:List Int} {bA:Int} {aU:List Int} {aL:Int} {aE:List Thread} {aK:List Entry} {id:Int} (h1:aB.length≤100000000) (h2:aD.length≤100000000) (h3:aC.length≤100000000) (h4:aT.length≤100000000) (h5:aU.length≤100000000) (h6:aE.length≤100000000) (h7:aK.length≤100000000) (hI:nJ (E5 (E4 aW aV aN aX aG aO aA) (E9 bT bV bU) aB aD aC (D8 aZ aT) (D8 bA aU) aL aE aK) id=false):cX Tryz.prog 190 [.agg [.int .i64 aW,.int .i64 aV,.int .i64 aN,.int .i64 aX,.int .i64 aG,.int .i64 aO,.bool aA,.int .i64 bT,.int .i64 bV,.int .i64 bU,.slv 2 (aB.map cU),.slv 1 (aD.map aS),.slv 1 (aC.map aS),.int .i64 aZ,.slv 1 (aT.map aS),.int .i64 bA,.slv 1 (aU.map aS),.int .i64 aL,.slv 11 (aE.map bH),.slv 5 (aK.map cO)],.int .i64 id] (.agg (bR (E5 (E4 aW aV aN aX aG aO aA) (E9 bT bV bU) aB aD aC (D8 aZ aT) (D8 bA aU) aL aE aK)),[],[]):=by
  refine aI bP xL (by simp [lN]) fun hw _=>?_
  clear hw
  repeat' with_reducible first|refine aQ (fun h=>?_) (fun h=>?_)|refine bB (fun h=>?_) (fun h=>?_)|refine aF (fun h=>?_) (fun h=>?_)|refine aH (fun h=>?_) (fun h=>?_)|refine FN ?_ ?_ ?_ ?_ rfl ?_|refine aR ?_ ?_|refine bC ?_ ?_|refine bM ?_ ?_|refine IA ?_ ?_ ?_|refine L1 ?_ ?_|refine L2 ?_ ?_|refine L3 ?_ ?_ ?_ ?_|refine L4 ?_ ?_|refine L5 ?_ ?_ ?_ ?_ ?_|refine L6 ?_ ?_ ?_ ?_ ?_|refine P0 (Nj ?_ ?_ ?_ ?_ ?_ ?_ ?_) ?_ ?_ ?_|refine P0 (lZ ?_ ?_ ?_ ?_ ?_ ?_ ?_) ?_ ?_ ?_|simp -implicitDefEqProofs only [lN,qA,bN,bD,bO,aJ,aP,qU,List.reduceReplicate,Nat.reduceAdd,Nat.reduceSub,Nat.reduceLeDiff,Nat.reduceEqDiff,Nat.reduceMul,reduceIte,reduceCtorEq,qI,Nat.reduceLT,Nat.reduceBEq,cL,Int.toNat_natCast,bH,bR,dM,hI,nM, *]
  all_goals first
    | omega
    | exact Wk.refl _
    | skip

theorem KB {aW aV:Int} {aN aX:Int} {aG aO:Int} {aA:Bool} {bT bV bU:Int} {aB:List Slot} {aD aC:List Int} {aZ:Int} {aT:List Int} {bA:Int} {aU:List Int} {aL:Int} {aE:List Thread} {aK:List Entry} {id:Int} (h1:aB.length≤100000000) (h2:aD.length≤100000000) (h3:aC.length≤100000000) (h4:aT.length≤100000000) (h5:aU.length≤100000000) (h6:aE.length≤100000000) (h7:aK.length≤100000000):cX Tryz.prog 190 [.agg [.int .i64 aW,.int .i64 aV,.int .i64 aN,.int .i64 aX,.int .i64 aG,.int .i64 aO,.bool aA,.int .i64 bT,.int .i64 bV,.int .i64 bU,.slv 2 (aB.map cU),.slv 1 (aD.map aS),.slv 1 (aC.map aS),.int .i64 aZ,.slv 1 (aT.map aS),.int .i64 bA,.slv 1 (aU.map aS),.int .i64 aL,.slv 11 (aE.map bH),.slv 5 (aK.map cO)],.int .i64 id] (.agg (bR (oM (E5 (E4 aW aV aN aX aG aO aA) (E9 bT bV bU) aB aD aC (D8 aZ aT) (D8 bA aU) aL aE aK) id)),[],[]):=by
  by_cases hI:nJ (E5 (E4 aW aV aN aX aG aO aA) (E9 bT bV bU) aB aD aC (D8 aZ aT) (D8 bA aU) aL aE aK) id=true
  · have hp:=IP (s:=(E5 (E4 aW aV aN aX aG aO aA) (E9 bT bV bU) aB aD aC (D8 aZ aT) (D8 bA aU) aL aE aK)) (id:=id) (FC hI)
    simp only [me] at hp
    have hs:oM (E5 (E4 aW aV aN aX aG aO aA) (E9 bT bV bU) aB aD aC (D8 aZ aT) (D8 bA aU) aL aE aK) id=(match (aE.getD id.toNat default).pc.toNat with | 0=>Gq (E5 (E4 aW aV aN aX aG aO aA) (E9 bT bV bU) aB aD aC (D8 aZ aT) (D8 bA aU) aL aE aK) id | 1=>uZ (E5 (E4 aW aV aN aX aG aO aA) (E9 bT bV bU) aB aD aC (D8 aZ aT) (D8 bA aU) aL aE aK) id | 2=>Bu (E5 (E4 aW aV aN aX aG aO aA) (E9 bT bV bU) aB aD aC (D8 aZ aT) (D8 bA aU) aL aE aK) id | 3=>Bv (E5 (E4 aW aV aN aX aG aO aA) (E9 bT bV bU) aB aD aC (D8 aZ aT) (D8 bA aU) aL aE aK) id | 4=>Ej (E5 (E4 aW aV aN aX aG aO aA) (E9 bT bV bU) aB aD aC (D8 aZ aT) (D8 bA aU) aL aE aK) id | 5=>wR (E5 (E4 aW aV aN aX aG aO aA) (E9 bT bV bU) aB aD aC (D8 aZ aT) (D8 bA aU) aL aE aK) id | 6=>qS (E5 (E4 aW aV aN aX aG aO aA) (E9 bT bV bU) aB aD aC (D8 aZ aT) (D8 bA aU) aL aE aK) id | 7=>uY (E5 (E4 aW aV aN aX aG aO aA) (E9 bT bV bU) aB aD aC (D8 aZ aT) (D8 bA aU) aL aE aK) id | 8=>qQ (E5 (E4 aW aV aN aX aG aO aA) (E9 bT bV bU) aB aD aC (D8 aZ aT) (D8 bA aU) aL aE aK) id | _=>qR (E5 (E4 aW aV aN aX aG aO aA) (E9 bT bV bU) aB aD aC (D8 aZ aT) (D8 bA aU) aL aE aK) id):=by
      unfold oM
      rw [if_neg (by simp [hI])]
      rfl
    rw [hs]
    have hc:(aE.getD id.toNat default).pc=0∨(aE.getD id.toNat default).pc=1∨(aE.getD id.toNat default).pc=2∨(aE.getD id.toNat default).pc=3∨(aE.getD id.toNat default).pc=4∨(aE.getD id.toNat default).pc=5∨(aE.getD id.toNat default).pc=6∨(aE.getD id.toNat default).pc=7∨(aE.getD id.toNat default).pc=8∨(aE.getD id.toNat default).pc=9∨(aE.getD id.toNat default).pc=10∨(aE.getD id.toNat default).pc=11:=by omega
    rcases hc with hc | hc | hc | hc | hc | hc | hc | hc | hc | hc | hc | hc
    · rw [hc]; exact Ux h1 h2 h3 h4 h5 h6 h7 hI hc
    · rw [hc]; exact Uy h1 h2 h3 h4 h5 h6 h7 hI hc
    · rw [hc]; exact Uz h1 h2 h3 h4 h5 h6 h7 hI hc
    · rw [hc]; exact Va h1 h2 h3 h4 h5 h6 h7 hI hc
    · rw [hc]; exact Vb h1 h2 h3 h4 h5 h6 h7 hI hc
    · rw [hc]; exact Vc h1 h2 h3 h4 h5 h6 h7 hI hc
    · rw [hc]; exact Vd h1 h2 h3 h4 h5 h6 h7 hI hc
    · rw [hc]; exact Ve h1 h2 h3 h4 h5 h6 h7 hI hc
    · rw [hc]; exact Vg h1 h2 h3 h4 h5 h6 h7 hI hc
    · rw [hc]; exact Vh h1 h2 h3 h4 h5 h6 h7 hI hc
    · rw [hc]; exact Qy h1 h2 h3 h4 h5 h6 h7 hI hc
    · rw [hc]; exact Ra h1 h2 h3 h4 h5 h6 h7 hI hc
  · have hs:oM (E5 (E4 aW aV aN aX aG aO aA) (E9 bT bV bU) aB aD aC (D8 aZ aT) (D8 bA aU) aL aE aK) id=(E5 (E4 aW aV aN aX aG aO aA) (E9 bT bV bU) aB aD aC (D8 aZ aT) (D8 bA aU) aL aE aK):=by unfold oM; rw [if_pos (by simp [hI])]
    rw [hs]
    exact Vi h1 h2 h3 h4 h5 h6 h7 (by simpa using hI)

theorem tQ {s:State} {id:Int} (h:Bd s 100000000):cX Tryz.prog 190 [.agg (bR s),.int .i64 id] (.agg (bR (oM s id)),[],[]):=by
  obtain ⟨h1,h2,h3,h4,h5,h6,h7⟩:=h.all
  exact KB h1 h2 h3 h4 h5 h6 h7
theorem Uf {s : State} {k:Nat} {id:Int} (h:Bd s k):Bd (oM s id) (k+1):=by
  have h':=h.mono (Nat.le_succ k)
  have hb:=h
  unfold Bd at hb
  obtain ⟨b1,b2,b3,b4,b5,b6,b7⟩:=hb
  unfold oM
  split
  · exact h'
  · split
    · exact fR (Ho h' (by have:=@vD s.recvs id; omega))
    · unfold uZ; split
      · exact fR h'
      · split
        · exact jU h
        · exact Ft h'
    · unfold Bu; split
      · exact fR h'
      · split
        · unfold Bw; split
          · exact jU h
          · split
            · exact jU h
            · split
              · exact fR h'
              · exact Ft h'
        · exact jU h
    · unfold Bv; simp only []; split
      · exact sK (jQ (pX h))
      · split
        · exact fR h'
        · exact jU h
    · exact fR (Az (jQ h') (by rw [sC]; omega))
    · exact fR (jQ h')
    · unfold qS; simp only []
      have he:Bd (cQ s (fI s.full).1) (k+1):=Fs h' (by have:=@oT s.full; omega)
      split
      · exact fR (Fu he)
      · exact fR he
    · unfold uY; split <;> exact fR h'
    · unfold qQ; split
      · exact fR h'
      · simp only []
        have he:Bd (cH s (kG s.empty (me s id).seen id).1) (k+1):=Ay h' (by have:=@zR s.empty (me s id).seen id; omega)
        split
        · exact jQ he
        · exact fR he
    · exact jQ (Ho h' (by have:=@Ce s.recvs id; omega))
end Go.Sak
