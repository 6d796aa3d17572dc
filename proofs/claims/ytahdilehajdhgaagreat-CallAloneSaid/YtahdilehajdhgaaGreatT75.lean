/- Part T75 of the proofs about the program: K86, K83. Conditions: none. -/
import Derived.Test.YtahdilehajdhgaaGreatT74
import Derived.Test.YtahdilehajdhgaaGreatT58
open Go.Sak.Config renaming mk→E4
open Go.Sak.Event renaming mk→D8
open Int renaming le_refl→K0,reduceEq→F5,reduceLE→J3,reduceLT→H8,reduceNe→F6,reduceToNat→I5,toNat_natCast→E1,toNat_one→J4,toNat_zero→H2
open List renaming length_map→G8,length_set→G9,reduceReplicate→D2,take_of_length_le→F4
open Nat renaming le_refl→G2,le_succ→f9,mul_one→L7,reduceAdd→D5,reduceBEq→E2,reduceEqDiff→D1,reduceLT→E3,reduceLeDiff→D4,reduceMul→D7,reduceSub→D6
open Go.Sak.State renaming mk→E5
open Go.Sak.Word renaming mk→E9
namespace Go.Sak
open Go Go.RowKit Go.Proofs
set_option linter.unusedVariables false
set_option linter.unusedSimpArgs false
set_option maxRecDepth 10000
set_option maxHeartbeats 8000000
theorem Aq {e:Event}:(dH e).1.ln.length≤e.ln.length∧(dH e).2.length≤e.ln.length:=by unfold dH; split <;> simp
theorem Vk {aW aV:Int} {aN aX:Int} {aG aO:Int} {aA:Bool} {bT bV bU:Int} {aB:List Slot} {aD aC:List Int} {aZ:Int} {aT:List Int} {bA:Int} {aU:List Int} {aL:Int} {aE:List Thread} {aK:List Entry} {id:Int} (h1:aB.length≤100000000) (h2:aD.length≤100000000) (h3:aC.length≤100000000) (h4:aT.length≤100000000) (h5:aU.length≤100000000) (h6:aE.length≤100000000) (h7:aK.length≤100000000) (hI:Hh (E5 (E4 aW aV aN aX aG aO aA) (E9 bT bV bU) aB aD aC (D8 aZ aT) (D8 bA aU) aL aE aK) id=true) (hpc:(aE.getD id.toNat default).pc=1):cX Tryz.prog 191 [.agg [.int .i64 aW,.int .i64 aV,.int .i64 aN,.int .i64 aX,.int .i64 aG,.int .i64 aO,.bool aA,.int .i64 bT,.int .i64 bV,.int .i64 bU,.slv 2 (aB.map cU),.slv 1 (aD.map aS),.slv 1 (aC.map aS),.int .i64 aZ,.slv 1 (aT.map aS),.int .i64 bA,.slv 1 (aU.map aS),.int .i64 aL,.slv 11 (aE.map bH),.slv 5 (aK.map cO)],.int .i64 id] (.agg (bR (Dx (E5 (E4 aW aV aN aX aG aO aA) (E9 bT bV bU) aB aD aC (D8 aZ aT) (D8 bA aU) aL aE aK) id)),[],[]):=by
  have hI':=hI
  simp only [Hh,cN,Bool.and_eq_true,decide_eq_true_eq] at hI'
  obtain ⟨⟨⟨⟨hchk,hge⟩,hlt⟩,hruns⟩,hside⟩:=hI'
  have hid:id.toNat<aE.length:=by omega
  have hne:aE≠[]:=by intro h; subst h; simp at hlt; omega
  have hv:=@Aq ⟨aZ,aT⟩
  simp only [] at hv
  obtain ⟨⟨ep,ln⟩,l,hE⟩:∃ e l,dH ⟨aZ,aT⟩=(e,l):=⟨_,_,rfl⟩
  rw [hE] at hv
  simp only [] at hv
  have hln:ln.length≤100000000:=by omega
  have hll:l.length≤100000000:=by omega
  clear hv
  have hR:Dx (E5 (E4 aW aV aN aX aG aO aA) (E9 bT bV bU) aB aD aC (D8 aZ aT) (D8 bA aU) aL aE aK) id=kN (E5 (E4 aW aV aN aX aG aO aA) (E9 bT bV bU) aB aD aC (D8 ep ln) (D8 bA aU) aL (wT (E5 (E4 aW aV aN aX aG aO aA) (E9 bT bV bU) aB aD aC (D8 ep ln) (D8 bA aU) aL aE aK) l) aK) id 2:=by
    unfold Dx; simp only [hE]; rw [rL]; rfl
  rw [hR]
  clear hR
  have hwl:=Dd (s:=(E5 (E4 aW aV aN aX aG aO aA) (E9 bT bV bU) aB aD aC (D8 ep ln) (D8 bA aU) aL aE aK)) l (E5 (E4 aW aV aN aX aG aO aA) (E9 bT bV bU) aB aD aC (D8 ep ln) (D8 bA aU) aL aE aK)
  generalize hTT:wT (E5 (E4 aW aV aN aX aG aO aA) (E9 bT bV bU) aB aD aC (D8 ep ln) (D8 bA aU) aL aE aK) l=TT at hwl ⊢
  have hwl2:id.toNat<TT.length:=by simp only [] at hwl; omega
  have hwl4:(0:Int)=0→TT.length=aE.length:=fun _=>hwl
  have hnl:l=[]→TT=aE:=fun e=>by rw [← hTT,e]; rfl
  clear hwl
  refine aI bP AB (by simp [Dg]) fun hw _=>?_
  clear hw
  repeat' with_reducible first|refine aQ (fun h=>?_) (fun h=>?_)|refine bB (fun h=>?_) (fun h=>?_)|refine aF (fun h=>?_) (fun h=>?_)|refine aH (fun h=>?_) (fun h=>?_)|refine FN ?_ ?_ ?_ ?_ rfl ?_|refine aR ?_ ?_|refine bC ?_ ?_|refine bM ?_ ?_|refine IA ?_ ?_ ?_|refine L1 ?_ ?_|refine L2 ?_ ?_|refine L3 ?_ ?_ ?_ ?_|refine L4 ?_ ?_|refine L5 ?_ ?_ ?_ ?_ ?_|refine L6 ?_ ?_ ?_ ?_ ?_|refine N1 (gG ?_ ?_ ?_ ?_ ?_ ?_ ?_ hne) ?_ ?_|refine P0 (Fy ?_ ?_ ?_ ?_ ?_ ?_ ?_) ?_ ?_ ?_|refine I3 bP HJ Yc ?_ ?_ ?_ ?_ ?_|refine dE ?_ ?_ ?_ ?_|refine RH h1 h2 h3 h4 h5 h6 h7 hne hE hln hll (by simp -implicitDefEqProofs only [qA,bN,bD,bO,aJ,aP,qU,D2,D5,D6,D4,D1,D7,reduceIte,reduceCtorEq,qI,E3,E2,qM, *]; exact rfl) (fun hl=>?_) (fun hl=>?_)|simp -implicitDefEqProofs only [Dg,qA,bN,bD,bO,aJ,aP,qU,D2,D5,D6,D4,D1,D7,reduceIte,reduceCtorEq,qI,E3,E2,cL,E1,bH,dM,dO,iA,hpc,hI,I5,L7,cE,cG,J3,H8,F5,F6,H2,J4,K0,set_set,bG,Qe,hTT, *]
  all_goals first
    | omega
    | (constructor <;> omega)
    | exact Wk.refl _
    | (refine Wk.of_eq ?_
       rw [F4 (by rw [G8,G9,hwl4 rfl]; exact G2 _)]
       rfl)
    | (refine Wk.of_eq ?_
       rw [← hTT,hl]
       rfl)
    | skip

theorem Vl {aW aV:Int} {aN aX:Int} {aG aO:Int} {aA:Bool} {bT bV bU:Int} {aB:List Slot} {aD aC:List Int} {aZ:Int} {aT:List Int} {bA:Int} {aU:List Int} {aL:Int} {aE:List Thread} {aK:List Entry} {id:Int} (h1:aB.length≤100000000) (h2:aD.length≤100000000) (h3:aC.length≤100000000) (h4:aT.length≤100000000) (h5:aU.length≤100000000) (h6:aE.length≤100000000) (h7:aK.length≤100000000) (hI:Hh (E5 (E4 aW aV aN aX aG aO aA) (E9 bT bV bU) aB aD aC (D8 aZ aT) (D8 bA aU) aL aE aK) id=true) (hpc:¬ (aE.getD id.toNat default).pc=0∧¬ (aE.getD id.toNat default).pc=1):cX Tryz.prog 191 [.agg [.int .i64 aW,.int .i64 aV,.int .i64 aN,.int .i64 aX,.int .i64 aG,.int .i64 aO,.bool aA,.int .i64 bT,.int .i64 bV,.int .i64 bU,.slv 2 (aB.map cU),.slv 1 (aD.map aS),.slv 1 (aC.map aS),.int .i64 aZ,.slv 1 (aT.map aS),.int .i64 bA,.slv 1 (aU.map aS),.int .i64 aL,.slv 11 (aE.map bH),.slv 5 (aK.map cO)],.int .i64 id] (.agg (bR (xO (E5 (E4 aW aV aN aX aG aO aA) (E9 bT bV bU) aB aD aC (D8 aZ aT) (D8 bA aU) aL aE aK) id)),[],[]):=by
  have hI':=hI
  simp only [Hh,cN,Bool.and_eq_true,decide_eq_true_eq] at hI'
  obtain ⟨⟨⟨⟨hchk,hge⟩,hlt⟩,hruns⟩,hside⟩:=hI'
  have hid:id.toNat<aE.length:=by omega
  have hne:aE≠[]:=by intro h; subst h; simp at hlt; omega
  have hv:=@Aq ⟨bA,aU⟩
  simp only [] at hv
  obtain ⟨⟨ep,ln⟩,l,hE⟩:∃ e l,dH ⟨bA,aU⟩=(e,l):=⟨_,_,rfl⟩
  rw [hE] at hv
  simp only [] at hv
  have hln:ln.length≤100000000:=by omega
  have hll:l.length≤100000000:=by omega
  clear hv
  have hR:xO (E5 (E4 aW aV aN aX aG aO aA) (E9 bT bV bU) aB aD aC (D8 aZ aT) (D8 bA aU) aL aE aK) id=dD (E5 (E4 aW aV aN aX aG aO aA) (E9 bT bV bU) aB aD aC (D8 aZ aT) (D8 ep ln) aL (wT (E5 (E4 aW aV aN aX aG aO aA) (E9 bT bV bU) aB aD aC (D8 aZ aT) (D8 ep ln) aL aE aK) l) aK) id (xH (me (E5 (E4 aW aV aN aX aG aO aA) (E9 bT bV bU) aB aD aC (D8 aZ aT) (D8 ep ln) aL (wT (E5 (E4 aW aV aN aX aG aO aA) (E9 bT bV bU) aB aD aC (D8 aZ aT) (D8 ep ln) aL aE aK) l) aK) id)).1:=by
    unfold xO; simp only [hE]; rw [rL]; rfl
  rw [hR]
  clear hR
  have hwl:=Dd (s:=(E5 (E4 aW aV aN aX aG aO aA) (E9 bT bV bU) aB aD aC (D8 aZ aT) (D8 ep ln) aL aE aK)) l (E5 (E4 aW aV aN aX aG aO aA) (E9 bT bV bU) aB aD aC (D8 aZ aT) (D8 ep ln) aL aE aK)
  generalize hTT:wT (E5 (E4 aW aV aN aX aG aO aA) (E9 bT bV bU) aB aD aC (D8 aZ aT) (D8 ep ln) aL aE aK) l=TT at hwl ⊢
  have hwl2:id.toNat<TT.length:=by simp only [] at hwl; omega
  have hwl4:(0:Int)=0→TT.length=aE.length:=fun _=>hwl
  have hnl:l=[]→TT=aE:=fun e=>by rw [← hTT,e]; rfl
  clear hwl
  refine aI bP AB (by simp [Dg]) fun hw _=>?_
  clear hw
  repeat' with_reducible first|refine aQ (fun h=>?_) (fun h=>?_)|refine bB (fun h=>?_) (fun h=>?_)|refine aF (fun h=>?_) (fun h=>?_)|refine aH (fun h=>?_) (fun h=>?_)|refine FN ?_ ?_ ?_ ?_ rfl ?_|refine aR ?_ ?_|refine bC ?_ ?_|refine bM ?_ ?_|refine IA ?_ ?_ ?_|refine L1 ?_ ?_|refine L2 ?_ ?_|refine L3 ?_ ?_ ?_ ?_|refine L4 ?_ ?_|refine L5 ?_ ?_ ?_ ?_ ?_|refine L6 ?_ ?_ ?_ ?_ ?_|refine N1 (gG ?_ ?_ ?_ ?_ ?_ ?_ ?_ hne) ?_ ?_|refine P0 (Fy ?_ ?_ ?_ ?_ ?_ ?_ ?_) ?_ ?_ ?_|refine I3 bP HJ Yc ?_ ?_ ?_ ?_ ?_|refine dE ?_ ?_ ?_ ?_|refine RG h1 h2 h3 h4 h5 h6 h7 hne hE hln hll (by simp -implicitDefEqProofs only [qA,bN,bD,bO,aJ,aP,qU,D2,D5,D6,D4,D1,D7,reduceIte,reduceCtorEq,qI,E3,E2,qM, *]; exact rfl) (fun hl=>?_) (fun hl=>?_)|refine P0 (kO) ?_ ?_ ?_|refine ACV.of (kO) ?_ ?_ ?_|refine ACK.of (kO) ?_ ?_|simp -implicitDefEqProofs only [Dg,qA,bN,bD,bO,aJ,aP,qU,D2,D5,D6,D4,D1,D7,reduceIte,reduceCtorEq,qI,E3,E2,cL,E1,bH,dM,dO,iA,hpc,hI,I5,L7,cE,cG,J3,H8,F5,F6,H2,J4,K0,set_set,bG,Qe,hTT, *]
  all_goals first
    | omega
    | (constructor <;> omega)
    | exact Wk.refl _
    | (refine Wk.of_eq ?_
       rw [F4 (by rw [G8,G9,hwl4 rfl]; exact G2 _)]
       rfl)
    | (refine Wk.of_eq ?_
       rw [← hTT,hl]
       rfl)
    | skip

set_option maxHeartbeats 8000000
theorem Vm {aW aV:Int} {aN aX:Int} {aG aO:Int} {aA:Bool} {bT bV bU:Int} {aB:List Slot} {aD aC:List Int} {aZ:Int} {aT:List Int} {bA:Int} {aU:List Int} {aL:Int} {aE:List Thread} {aK:List Entry} {id:Int} (h1:aB.length≤100000000) (h2:aD.length≤100000000) (h3:aC.length≤100000000) (h4:aT.length≤100000000) (h5:aU.length≤100000000) (h6:aE.length≤100000000) (h7:aK.length≤100000000) (hI:Hh (E5 (E4 aW aV aN aX aG aO aA) (E9 bT bV bU) aB aD aC (D8 aZ aT) (D8 bA aU) aL aE aK) id=false):cX Tryz.prog 191 [.agg [.int .i64 aW,.int .i64 aV,.int .i64 aN,.int .i64 aX,.int .i64 aG,.int .i64 aO,.bool aA,.int .i64 bT,.int .i64 bV,.int .i64 bU,.slv 2 (aB.map cU),.slv 1 (aD.map aS),.slv 1 (aC.map aS),.int .i64 aZ,.slv 1 (aT.map aS),.int .i64 bA,.slv 1 (aU.map aS),.int .i64 aL,.slv 11 (aE.map bH),.slv 5 (aK.map cO)],.int .i64 id] (.agg (bR (E5 (E4 aW aV aN aX aG aO aA) (E9 bT bV bU) aB aD aC (D8 aZ aT) (D8 bA aU) aL aE aK)),[],[]):=by
  refine aI bP AB (by simp [Dg]) fun hw _=>?_
  clear hw
  repeat' with_reducible first|refine aQ (fun h=>?_) (fun h=>?_)|refine bB (fun h=>?_) (fun h=>?_)|refine aF (fun h=>?_) (fun h=>?_)|refine aH (fun h=>?_) (fun h=>?_)|refine FN ?_ ?_ ?_ ?_ rfl ?_|refine aR ?_ ?_|refine bC ?_ ?_|refine bM ?_ ?_|refine IA ?_ ?_ ?_|refine L1 ?_ ?_|refine L2 ?_ ?_|refine L3 ?_ ?_ ?_ ?_|refine L4 ?_ ?_|refine L5 ?_ ?_ ?_ ?_ ?_|refine L6 ?_ ?_ ?_ ?_ ?_|refine P0 (Nj ?_ ?_ ?_ ?_ ?_ ?_ ?_) ?_ ?_ ?_|refine P0 (Fy ?_ ?_ ?_ ?_ ?_ ?_ ?_) ?_ ?_ ?_|simp -implicitDefEqProofs only [Dg,qA,bN,bD,bO,aJ,aP,qU,D2,D5,D6,D4,D1,D7,reduceIte,reduceCtorEq,qI,E3,E2,cL,E1,bH,bR,dM,hI,nM, *]
  all_goals first
    | omega
    | exact Wk.refl _
    | skip

theorem KC {aW aV:Int} {aN aX:Int} {aG aO:Int} {aA:Bool} {bT bV bU:Int} {aB:List Slot} {aD aC:List Int} {aZ:Int} {aT:List Int} {bA:Int} {aU:List Int} {aL:Int} {aE:List Thread} {aK:List Entry} {id:Int} (h1:aB.length≤100000000) (h2:aD.length≤100000000) (h3:aC.length≤100000000) (h4:aT.length≤100000000) (h5:aU.length≤100000000) (h6:aE.length≤100000000) (h7:aK.length≤100000000):cX Tryz.prog 191 [.agg [.int .i64 aW,.int .i64 aV,.int .i64 aN,.int .i64 aX,.int .i64 aG,.int .i64 aO,.bool aA,.int .i64 bT,.int .i64 bV,.int .i64 bU,.slv 2 (aB.map cU),.slv 1 (aD.map aS),.slv 1 (aC.map aS),.int .i64 aZ,.slv 1 (aT.map aS),.int .i64 bA,.slv 1 (aU.map aS),.int .i64 aL,.slv 11 (aE.map bH),.slv 5 (aK.map cO)],.int .i64 id] (.agg (bR (lQ (E5 (E4 aW aV aN aX aG aO aA) (E9 bT bV bU) aB aD aC (D8 aZ aT) (D8 bA aU) aL aE aK) id)),[],[]):=by
  by_cases hI:Hh (E5 (E4 aW aV aN aX aG aO aA) (E9 bT bV bU) aB aD aC (D8 aZ aT) (D8 bA aU) aL aE aK) id=true
  · by_cases h0:(aE.getD id.toNat default).pc=0
    · rw [show lQ (E5 (E4 aW aV aN aX aG aO aA) (E9 bT bV bU) aB aD aC (D8 aZ aT) (D8 bA aU) aL aE aK) id=Hs (E5 (E4 aW aV aN aX aG aO aA) (E9 bT bV bU) aB aD aC (D8 aZ aT) (D8 bA aU) aL aE aK) id from by unfold lQ; rw [if_neg (by simp [hI])]; exact if_pos h0]
      exact Vj h1 h2 h3 h4 h5 h6 h7 hI h0
    · by_cases h1':(aE.getD id.toNat default).pc=1
      · rw [show lQ (E5 (E4 aW aV aN aX aG aO aA) (E9 bT bV bU) aB aD aC (D8 aZ aT) (D8 bA aU) aL aE aK) id=Dx (E5 (E4 aW aV aN aX aG aO aA) (E9 bT bV bU) aB aD aC (D8 aZ aT) (D8 bA aU) aL aE aK) id from by unfold lQ; rw [if_neg (by simp [hI])]; exact (if_neg h0).trans (if_pos h1')]
        exact Vk h1 h2 h3 h4 h5 h6 h7 hI h1'
      · rw [show lQ (E5 (E4 aW aV aN aX aG aO aA) (E9 bT bV bU) aB aD aC (D8 aZ aT) (D8 bA aU) aL aE aK) id=xO (E5 (E4 aW aV aN aX aG aO aA) (E9 bT bV bU) aB aD aC (D8 aZ aT) (D8 bA aU) aL aE aK) id from by unfold lQ; rw [if_neg (by simp [hI])]; exact (if_neg h0).trans (if_neg h1')]
        exact Vl h1 h2 h3 h4 h5 h6 h7 hI ⟨h0,h1'⟩
  · have hs:lQ (E5 (E4 aW aV aN aX aG aO aA) (E9 bT bV bU) aB aD aC (D8 aZ aT) (D8 bA aU) aL aE aK) id=(E5 (E4 aW aV aN aX aG aO aA) (E9 bT bV bU) aB aD aC (D8 aZ aT) (D8 bA aU) aL aE aK):=by unfold lQ; rw [if_pos (by simp [hI])]
    rw [hs]
    exact Vm h1 h2 h3 h4 h5 h6 h7 (by simpa using hI)
theorem tR {s:State} {id:Int} (h:Bd s 100000000):cX Tryz.prog 191 [.agg (bR s),.int .i64 id] (.agg (bR (lQ s id)),[],[]):=by
  obtain ⟨h1,h2,h3,h4,h5,h6,h7⟩:=h.all
  exact KC h1 h2 h3 h4 h5 h6 h7
theorem uU:∀ (l:List Int) {s:State} {k:Nat},Bd s k→Bd (oW s l) k
  | [],_,_,h=>h
  | x :: l,_,_,h=>uU l (Fu h)
theorem Ue {s:State} {k:Nat} {id:Int} (h:Bd s k):Bd (lQ s id) (k+1):=by
  have h':=h.mono (f9 k)
  have hb:=h
  unfold Bd at hb
  unfold lQ; split
  · exact h'
  · split
    · exact sK (pX h)
    · split
      · exact fR (uU _ (Fs h' (by have:=@Aq s.full; omega)))
      · exact jQ (uU _ (Ay h' (by have:=@Aq s.empty; omega)))
theorem Ug {s:State} {k:Nat} {id:Int} (h:Bd s k):Bd (iV s id).1 (k+1):=by
  have h':=h.mono (f9 k)
  unfold iV; split
  · exact h'
  · split
    · exact h'
    · split
      · exact h'
      · show Bd (oP s id) (k+1)
        unfold oP; split
        · exact Uh h
        · split
          · exact Uf h
          · exact Ue h
end Go.Sak
