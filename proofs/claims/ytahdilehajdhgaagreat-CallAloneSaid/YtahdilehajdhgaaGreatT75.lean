/- Part T75 of the proofs about the program: K86, K83. Conditions: none. -/
import Derived.Test.YtahdilehajdhgaaGreatT74
import Derived.Test.YtahdilehajdhgaaGreatT58
open Go.Sak.Config renaming mk→E3
open Go.Sak.Event renaming mk→D7
open Int renaming le_refl→J9,reduceEq→F4,reduceLE→J2,reduceLT→H7,reduceNe→F5,reduceToNat→I4,toNat_natCast→E0,toNat_one→J3,toNat_zero→H1
open List renaming length_map→G7,length_set→G8,reduceReplicate→D1,take_of_length_le→F3
open Nat renaming le_refl→G1,le_succ→f8,mul_one→L0,reduceAdd→D4,reduceBEq→E1,reduceEqDiff→D0,reduceLT→E2,reduceLeDiff→D3,reduceMul→D6,reduceSub→D5
open Go.Sak.State renaming mk→E4
open Go.Sak.Word renaming mk→E8
namespace Go.Sak
open Go Go.RowKit Go.Proofs
set_option linter.unusedVariables false
set_option linter.unusedSimpArgs false
set_option maxRecDepth 10000
set_option maxHeartbeats 8000000
theorem Ap {e:Event}:(dH e).1.ln.length≤e.ln.length∧(dH e).2.length≤e.ln.length:=by unfold dH; split <;> simp
theorem Vj {aW aV:Int} {aN aX:Int} {aG aO:Int} {aA:Bool} {bT bV bU:Int} {aB:List Slot} {aD aC:List Int} {aZ:Int} {aT:List Int} {bA:Int} {aU:List Int} {aL:Int} {aE:List Thread} {aK:List Entry} {id:Int} (h1:aB.length≤100000000) (h2:aD.length≤100000000) (h3:aC.length≤100000000) (h4:aT.length≤100000000) (h5:aU.length≤100000000) (h6:aE.length≤100000000) (h7:aK.length≤100000000) (hI:Hg (E4 (E3 aW aV aN aX aG aO aA) (E8 bT bV bU) aB aD aC (D7 aZ aT) (D7 bA aU) aL aE aK) id=true) (hpc:(aE.getD id.toNat default).pc=1):cX Tryz.prog 191 [.agg [.int .i64 aW,.int .i64 aV,.int .i64 aN,.int .i64 aX,.int .i64 aG,.int .i64 aO,.bool aA,.int .i64 bT,.int .i64 bV,.int .i64 bU,.slv 2 (aB.map cU),.slv 1 (aD.map aS),.slv 1 (aC.map aS),.int .i64 aZ,.slv 1 (aT.map aS),.int .i64 bA,.slv 1 (aU.map aS),.int .i64 aL,.slv 11 (aE.map bH),.slv 5 (aK.map cO)],.int .i64 id] (.agg (bR (Dw (E4 (E3 aW aV aN aX aG aO aA) (E8 bT bV bU) aB aD aC (D7 aZ aT) (D7 bA aU) aL aE aK) id)),[],[]):=by
  have hI':=hI
  simp only [Hg,cN,Bool.and_eq_true,decide_eq_true_eq] at hI'
  obtain ⟨⟨⟨⟨hchk,hge⟩,hlt⟩,hruns⟩,hside⟩:=hI'
  have hid:id.toNat<aE.length:=by omega
  have hne:aE≠[]:=by intro h; subst h; simp at hlt; omega
  have hv:=@Ap ⟨aZ,aT⟩
  simp only [] at hv
  obtain ⟨⟨ep,ln⟩,l,hE⟩:∃ e l,dH ⟨aZ,aT⟩=(e,l):=⟨_,_,rfl⟩
  rw [hE] at hv
  simp only [] at hv
  have hln:ln.length≤100000000:=by omega
  have hll:l.length≤100000000:=by omega
  clear hv
  have hR:Dw (E4 (E3 aW aV aN aX aG aO aA) (E8 bT bV bU) aB aD aC (D7 aZ aT) (D7 bA aU) aL aE aK) id=kM (E4 (E3 aW aV aN aX aG aO aA) (E8 bT bV bU) aB aD aC (D7 ep ln) (D7 bA aU) aL (wT (E4 (E3 aW aV aN aX aG aO aA) (E8 bT bV bU) aB aD aC (D7 ep ln) (D7 bA aU) aL aE aK) l) aK) id 2:=by
    unfold Dw; simp only [hE]; rw [rK]; rfl
  rw [hR]
  clear hR
  have hwl:=Dc (s:=(E4 (E3 aW aV aN aX aG aO aA) (E8 bT bV bU) aB aD aC (D7 ep ln) (D7 bA aU) aL aE aK)) l (E4 (E3 aW aV aN aX aG aO aA) (E8 bT bV bU) aB aD aC (D7 ep ln) (D7 bA aU) aL aE aK)
  generalize hTT:wT (E4 (E3 aW aV aN aX aG aO aA) (E8 bT bV bU) aB aD aC (D7 ep ln) (D7 bA aU) aL aE aK) l=TT at hwl ⊢
  have hwl2:id.toNat<TT.length:=by simp only [] at hwl; omega
  have hwl4:(0:Int)=0→TT.length=aE.length:=fun _=>hwl
  have hnl:l=[]→TT=aE:=fun e=>by rw [← hTT,e]; rfl
  clear hwl
  refine aI bP AA (by simp [Df]) fun hw _=>?_
  clear hw
  repeat' with_reducible first|refine aQ (fun h=>?_) (fun h=>?_)|refine bB (fun h=>?_) (fun h=>?_)|refine aF (fun h=>?_) (fun h=>?_)|refine aH (fun h=>?_) (fun h=>?_)|refine FN ?_ ?_ ?_ ?_ rfl ?_|refine aR ?_ ?_|refine bC ?_ ?_|refine bM ?_ ?_|refine IA ?_ ?_ ?_|refine L1 ?_ ?_|refine L2 ?_ ?_|refine L3 ?_ ?_ ?_ ?_|refine L4 ?_ ?_|refine L5 ?_ ?_ ?_ ?_ ?_|refine L6 ?_ ?_ ?_ ?_ ?_|refine N1 (gF ?_ ?_ ?_ ?_ ?_ ?_ ?_ hne) ?_ ?_|refine P0 (Fx ?_ ?_ ?_ ?_ ?_ ?_ ?_) ?_ ?_ ?_|refine I3 bP HI Yb ?_ ?_ ?_ ?_ ?_|refine dE ?_ ?_ ?_ ?_|refine RG h1 h2 h3 h4 h5 h6 h7 hne hE hln hll (by simp -implicitDefEqProofs only [qA,bN,bD,bO,aJ,aP,qU,D1,D4,D5,D3,D0,D6,reduceIte,reduceCtorEq,qI,E2,E1,qM, *]; exact rfl) (fun hl=>?_) (fun hl=>?_)|simp -implicitDefEqProofs only [Df,qA,bN,bD,bO,aJ,aP,qU,D1,D4,D5,D3,D0,D6,reduceIte,reduceCtorEq,qI,E2,E1,cL,E0,bH,dM,dO,hX,hpc,hI,I4,L0,cE,cG,J2,H7,F4,F5,H1,J3,J9,set_set,bG,Pz,hTT, *]
  all_goals first
    | omega
    | (constructor <;> omega)
    | exact Wk.refl _
    | (refine Wk.of_eq ?_
       rw [F3 (by rw [G7,G8,hwl4 rfl]; exact G1 _)]
       rfl)
    | (refine Wk.of_eq ?_
       rw [← hTT,hl]
       rfl)
    | skip

theorem Vk {aW aV:Int} {aN aX:Int} {aG aO:Int} {aA:Bool} {bT bV bU:Int} {aB:List Slot} {aD aC:List Int} {aZ:Int} {aT:List Int} {bA:Int} {aU:List Int} {aL:Int} {aE:List Thread} {aK:List Entry} {id:Int} (h1:aB.length≤100000000) (h2:aD.length≤100000000) (h3:aC.length≤100000000) (h4:aT.length≤100000000) (h5:aU.length≤100000000) (h6:aE.length≤100000000) (h7:aK.length≤100000000) (hI:Hg (E4 (E3 aW aV aN aX aG aO aA) (E8 bT bV bU) aB aD aC (D7 aZ aT) (D7 bA aU) aL aE aK) id=true) (hpc:¬ (aE.getD id.toNat default).pc=0∧¬ (aE.getD id.toNat default).pc=1):cX Tryz.prog 191 [.agg [.int .i64 aW,.int .i64 aV,.int .i64 aN,.int .i64 aX,.int .i64 aG,.int .i64 aO,.bool aA,.int .i64 bT,.int .i64 bV,.int .i64 bU,.slv 2 (aB.map cU),.slv 1 (aD.map aS),.slv 1 (aC.map aS),.int .i64 aZ,.slv 1 (aT.map aS),.int .i64 bA,.slv 1 (aU.map aS),.int .i64 aL,.slv 11 (aE.map bH),.slv 5 (aK.map cO)],.int .i64 id] (.agg (bR (xN (E4 (E3 aW aV aN aX aG aO aA) (E8 bT bV bU) aB aD aC (D7 aZ aT) (D7 bA aU) aL aE aK) id)),[],[]):=by
  have hI':=hI
  simp only [Hg,cN,Bool.and_eq_true,decide_eq_true_eq] at hI'
  obtain ⟨⟨⟨⟨hchk,hge⟩,hlt⟩,hruns⟩,hside⟩:=hI'
  have hid:id.toNat<aE.length:=by omega
  have hne:aE≠[]:=by intro h; subst h; simp at hlt; omega
  have hv:=@Ap ⟨bA,aU⟩
  simp only [] at hv
  obtain ⟨⟨ep,ln⟩,l,hE⟩:∃ e l,dH ⟨bA,aU⟩=(e,l):=⟨_,_,rfl⟩
  rw [hE] at hv
  simp only [] at hv
  have hln:ln.length≤100000000:=by omega
  have hll:l.length≤100000000:=by omega
  clear hv
  have hR:xN (E4 (E3 aW aV aN aX aG aO aA) (E8 bT bV bU) aB aD aC (D7 aZ aT) (D7 bA aU) aL aE aK) id=dD (E4 (E3 aW aV aN aX aG aO aA) (E8 bT bV bU) aB aD aC (D7 aZ aT) (D7 ep ln) aL (wT (E4 (E3 aW aV aN aX aG aO aA) (E8 bT bV bU) aB aD aC (D7 aZ aT) (D7 ep ln) aL aE aK) l) aK) id (xG (me (E4 (E3 aW aV aN aX aG aO aA) (E8 bT bV bU) aB aD aC (D7 aZ aT) (D7 ep ln) aL (wT (E4 (E3 aW aV aN aX aG aO aA) (E8 bT bV bU) aB aD aC (D7 aZ aT) (D7 ep ln) aL aE aK) l) aK) id)).1:=by
    unfold xN; simp only [hE]; rw [rK]; rfl
  rw [hR]
  clear hR
  have hwl:=Dc (s:=(E4 (E3 aW aV aN aX aG aO aA) (E8 bT bV bU) aB aD aC (D7 aZ aT) (D7 ep ln) aL aE aK)) l (E4 (E3 aW aV aN aX aG aO aA) (E8 bT bV bU) aB aD aC (D7 aZ aT) (D7 ep ln) aL aE aK)
  generalize hTT:wT (E4 (E3 aW aV aN aX aG aO aA) (E8 bT bV bU) aB aD aC (D7 aZ aT) (D7 ep ln) aL aE aK) l=TT at hwl ⊢
  have hwl2:id.toNat<TT.length:=by simp only [] at hwl; omega
  have hwl4:(0:Int)=0→TT.length=aE.length:=fun _=>hwl
  have hnl:l=[]→TT=aE:=fun e=>by rw [← hTT,e]; rfl
  clear hwl
  refine aI bP AA (by simp [Df]) fun hw _=>?_
  clear hw
  repeat' with_reducible first|refine aQ (fun h=>?_) (fun h=>?_)|refine bB (fun h=>?_) (fun h=>?_)|refine aF (fun h=>?_) (fun h=>?_)|refine aH (fun h=>?_) (fun h=>?_)|refine FN ?_ ?_ ?_ ?_ rfl ?_|refine aR ?_ ?_|refine bC ?_ ?_|refine bM ?_ ?_|refine IA ?_ ?_ ?_|refine L1 ?_ ?_|refine L2 ?_ ?_|refine L3 ?_ ?_ ?_ ?_|refine L4 ?_ ?_|refine L5 ?_ ?_ ?_ ?_ ?_|refine L6 ?_ ?_ ?_ ?_ ?_|refine N1 (gF ?_ ?_ ?_ ?_ ?_ ?_ ?_ hne) ?_ ?_|refine P0 (Fx ?_ ?_ ?_ ?_ ?_ ?_ ?_) ?_ ?_ ?_|refine I3 bP HI Yb ?_ ?_ ?_ ?_ ?_|refine dE ?_ ?_ ?_ ?_|refine RF h1 h2 h3 h4 h5 h6 h7 hne hE hln hll (by simp -implicitDefEqProofs only [qA,bN,bD,bO,aJ,aP,qU,D1,D4,D5,D3,D0,D6,reduceIte,reduceCtorEq,qI,E2,E1,qM, *]; exact rfl) (fun hl=>?_) (fun hl=>?_)|refine P0 (kN) ?_ ?_ ?_|refine ACV.of (kN) ?_ ?_ ?_|refine ACK.of (kN) ?_ ?_|simp -implicitDefEqProofs only [Df,qA,bN,bD,bO,aJ,aP,qU,D1,D4,D5,D3,D0,D6,reduceIte,reduceCtorEq,qI,E2,E1,cL,E0,bH,dM,dO,hX,hpc,hI,I4,L0,cE,cG,J2,H7,F4,F5,H1,J3,J9,set_set,bG,Pz,hTT, *]
  all_goals first
    | omega
    | (constructor <;> omega)
    | exact Wk.refl _
    | (refine Wk.of_eq ?_
       rw [F3 (by rw [G7,G8,hwl4 rfl]; exact G1 _)]
       rfl)
    | (refine Wk.of_eq ?_
       rw [← hTT,hl]
       rfl)
    | skip

set_option maxHeartbeats 8000000
theorem Vl {aW aV:Int} {aN aX:Int} {aG aO:Int} {aA:Bool} {bT bV bU:Int} {aB:List Slot} {aD aC:List Int} {aZ:Int} {aT:List Int} {bA:Int} {aU:List Int} {aL:Int} {aE:List Thread} {aK:List Entry} {id:Int} (h1:aB.length≤100000000) (h2:aD.length≤100000000) (h3:aC.length≤100000000) (h4:aT.length≤100000000) (h5:aU.length≤100000000) (h6:aE.length≤100000000) (h7:aK.length≤100000000) (hI:Hg (E4 (E3 aW aV aN aX aG aO aA) (E8 bT bV bU) aB aD aC (D7 aZ aT) (D7 bA aU) aL aE aK) id=false):cX Tryz.prog 191 [.agg [.int .i64 aW,.int .i64 aV,.int .i64 aN,.int .i64 aX,.int .i64 aG,.int .i64 aO,.bool aA,.int .i64 bT,.int .i64 bV,.int .i64 bU,.slv 2 (aB.map cU),.slv 1 (aD.map aS),.slv 1 (aC.map aS),.int .i64 aZ,.slv 1 (aT.map aS),.int .i64 bA,.slv 1 (aU.map aS),.int .i64 aL,.slv 11 (aE.map bH),.slv 5 (aK.map cO)],.int .i64 id] (.agg (bR (E4 (E3 aW aV aN aX aG aO aA) (E8 bT bV bU) aB aD aC (D7 aZ aT) (D7 bA aU) aL aE aK)),[],[]):=by
  refine aI bP AA (by simp [Df]) fun hw _=>?_
  clear hw
  repeat' with_reducible first|refine aQ (fun h=>?_) (fun h=>?_)|refine bB (fun h=>?_) (fun h=>?_)|refine aF (fun h=>?_) (fun h=>?_)|refine aH (fun h=>?_) (fun h=>?_)|refine FN ?_ ?_ ?_ ?_ rfl ?_|refine aR ?_ ?_|refine bC ?_ ?_|refine bM ?_ ?_|refine IA ?_ ?_ ?_|refine L1 ?_ ?_|refine L2 ?_ ?_|refine L3 ?_ ?_ ?_ ?_|refine L4 ?_ ?_|refine L5 ?_ ?_ ?_ ?_ ?_|refine L6 ?_ ?_ ?_ ?_ ?_|refine P0 (Ni ?_ ?_ ?_ ?_ ?_ ?_ ?_) ?_ ?_ ?_|refine P0 (Fx ?_ ?_ ?_ ?_ ?_ ?_ ?_) ?_ ?_ ?_|simp -implicitDefEqProofs only [Df,qA,bN,bD,bO,aJ,aP,qU,D1,D4,D5,D3,D0,D6,reduceIte,reduceCtorEq,qI,E2,E1,cL,E0,bH,bR,dM,hI,nL, *]
  all_goals first
    | omega
    | exact Wk.refl _
    | skip

theorem KB {aW aV:Int} {aN aX:Int} {aG aO:Int} {aA:Bool} {bT bV bU:Int} {aB:List Slot} {aD aC:List Int} {aZ:Int} {aT:List Int} {bA:Int} {aU:List Int} {aL:Int} {aE:List Thread} {aK:List Entry} {id:Int} (h1:aB.length≤100000000) (h2:aD.length≤100000000) (h3:aC.length≤100000000) (h4:aT.length≤100000000) (h5:aU.length≤100000000) (h6:aE.length≤100000000) (h7:aK.length≤100000000):cX Tryz.prog 191 [.agg [.int .i64 aW,.int .i64 aV,.int .i64 aN,.int .i64 aX,.int .i64 aG,.int .i64 aO,.bool aA,.int .i64 bT,.int .i64 bV,.int .i64 bU,.slv 2 (aB.map cU),.slv 1 (aD.map aS),.slv 1 (aC.map aS),.int .i64 aZ,.slv 1 (aT.map aS),.int .i64 bA,.slv 1 (aU.map aS),.int .i64 aL,.slv 11 (aE.map bH),.slv 5 (aK.map cO)],.int .i64 id] (.agg (bR (lP (E4 (E3 aW aV aN aX aG aO aA) (E8 bT bV bU) aB aD aC (D7 aZ aT) (D7 bA aU) aL aE aK) id)),[],[]):=by
  by_cases hI:Hg (E4 (E3 aW aV aN aX aG aO aA) (E8 bT bV bU) aB aD aC (D7 aZ aT) (D7 bA aU) aL aE aK) id=true
  · by_cases h0:(aE.getD id.toNat default).pc=0
    · rw [show lP (E4 (E3 aW aV aN aX aG aO aA) (E8 bT bV bU) aB aD aC (D7 aZ aT) (D7 bA aU) aL aE aK) id=Hr (E4 (E3 aW aV aN aX aG aO aA) (E8 bT bV bU) aB aD aC (D7 aZ aT) (D7 bA aU) aL aE aK) id from by unfold lP; rw [if_neg (by simp [hI])]; exact if_pos h0]
      exact Vi h1 h2 h3 h4 h5 h6 h7 hI h0
    · by_cases h1':(aE.getD id.toNat default).pc=1
      · rw [show lP (E4 (E3 aW aV aN aX aG aO aA) (E8 bT bV bU) aB aD aC (D7 aZ aT) (D7 bA aU) aL aE aK) id=Dw (E4 (E3 aW aV aN aX aG aO aA) (E8 bT bV bU) aB aD aC (D7 aZ aT) (D7 bA aU) aL aE aK) id from by unfold lP; rw [if_neg (by simp [hI])]; exact (if_neg h0).trans (if_pos h1')]
        exact Vj h1 h2 h3 h4 h5 h6 h7 hI h1'
      · rw [show lP (E4 (E3 aW aV aN aX aG aO aA) (E8 bT bV bU) aB aD aC (D7 aZ aT) (D7 bA aU) aL aE aK) id=xN (E4 (E3 aW aV aN aX aG aO aA) (E8 bT bV bU) aB aD aC (D7 aZ aT) (D7 bA aU) aL aE aK) id from by unfold lP; rw [if_neg (by simp [hI])]; exact (if_neg h0).trans (if_neg h1')]
        exact Vk h1 h2 h3 h4 h5 h6 h7 hI ⟨h0,h1'⟩
  · have hs:lP (E4 (E3 aW aV aN aX aG aO aA) (E8 bT bV bU) aB aD aC (D7 aZ aT) (D7 bA aU) aL aE aK) id=(E4 (E3 aW aV aN aX aG aO aA) (E8 bT bV bU) aB aD aC (D7 aZ aT) (D7 bA aU) aL aE aK):=by unfold lP; rw [if_pos (by simp [hI])]
    rw [hs]
    exact Vl h1 h2 h3 h4 h5 h6 h7 (by simpa using hI)
theorem tQ {s:State} {id:Int} (h:Bd s 100000000):cX Tryz.prog 191 [.agg (bR s),.int .i64 id] (.agg (bR (lP s id)),[],[]):=by
  obtain ⟨h1,h2,h3,h4,h5,h6,h7⟩:=h.all
  exact KB h1 h2 h3 h4 h5 h6 h7
theorem uT:∀ (l:List Int) {s:State} {k:Nat},Bd s k→Bd (oV s l) k
  | [],_,_,h=>h
  | x :: l,_,_,h=>uT l (Ft h)
theorem Ud {s:State} {k:Nat} {id:Int} (h:Bd s k):Bd (lP s id) (k+1):=by
  have h':=h.mono (f8 k)
  have hb:=h
  unfold Bd at hb
  unfold lP; split
  · exact h'
  · split
    · exact sJ (pW h)
    · split
      · exact fR (uT _ (Fr h' (by have:=@Ap s.full; omega)))
      · exact jP (uT _ (Ax h' (by have:=@Ap s.empty; omega)))
theorem Uf {s:State} {k:Nat} {id:Int} (h:Bd s k):Bd (iU s id).1 (k+1):=by
  have h':=h.mono (f8 k)
  unfold iU; split
  · exact h'
  · split
    · exact h'
    · split
      · exact h'
      · show Bd (oO s id) (k+1)
        unfold oO; split
        · exact Ug h
        · split
          · exact Ue h
          · exact Ud h
end Go.Sak
