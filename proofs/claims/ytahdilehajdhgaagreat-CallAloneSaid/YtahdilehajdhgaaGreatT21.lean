/- Part T21 of the proofs about the program: K18, K19. Conditions: none. -/
import Derived.Test.YtahdilehajdhgaaGreatT18
open Go.Sak.ACK renaming of→F8
open Go.Sak.ACV renaming of→F3
open Bool renaming and_eq_true→E0
open Go.Sak.Config renaming mk→E4
open Go.Sak.Event renaming mk→D8
open Int renaming toNat_natCast→E1
open List renaming reduceReplicate→D2
open Nat renaming reduceAdd→D5,reduceBEq→E2,reduceEqDiff→D1,reduceLT→E3,reduceLeDiff→D4,reduceMul→D7,reduceSub→D6
open Go.Sak.State renaming mk→E5
open Go.Proofs.Tryz renaming prog→D9
open Go.Sak.Word renaming mk→E9
namespace Go.Sak
open Go Go.RowKit Go.Proofs
set_option linter.unusedVariables false
set_option linter.unusedSimpArgs false
set_option maxRecDepth 10000
set_option maxHeartbeats 8000000
theorem oI {aW aV:Int} {aN aX:Int} {aG aO:Int} {aA:Bool} {bT bV bU:Int} {aB:List Slot} {aD aC:List Int} {aZ:Int} {aT:List Int} {bA:Int} {aU:List Int} {aL:Int} {aE:List Thread} {aK:List Entry} {id kind res got:Int} (h1:aB.length≤100000000) (h2:aD.length≤100000000) (h3:aC.length≤100000000) (h4:aT.length≤100000000) (h5:aU.length≤100000000) (h6:aE.length≤100000000) (h7:aK.length≤100000000) (hI:cN (E5 (E4 aW aV aN aX aG aO aA) (E9 bT bV bU) aB aD aC (D8 aZ aT) (D8 bA aU) aL aE aK) id=true) :
    cX D9 279 [.agg [.int .i64 aW,.int .i64 aV,.int .i64 aN,.int .i64 aX,.int .i64 aG,.int .i64 aO,.bool aA,.int .i64 bT,.int .i64 bV,.int .i64 bU,.slv 2 (aB.map cU),.slv 1 (aD.map aS),.slv 1 (aC.map aS),.int .i64 aZ,.slv 1 (aT.map aS),.int .i64 bA,.slv 1 (aU.map aS),.int .i64 aL,.slv 11 (aE.map bH),.slv 5 (aK.map cO)],.int .i64 id,.int .i64 kind,.int .i64 res,.int .i64 got] (.agg (dM (E5 (E4 aW aV aN aX aG aO aA) (E9 bT bV bU) aB aD aC (D8 aZ aT) (D8 bA aU) aL aE aK) (.slm 1 aE.length) (.slv 5 ((eO (E5 (E4 aW aV aN aX aG aO aA) (E9 bT bV bU) aB aD aC (D8 aZ aT) (D8 bA aU) aL aE aK) id kind res got).log.map cO))),[(1,some (.rows 42 11 ((eO (E5 (E4 aW aV aN aX aG aO aA) (E9 bT bV bU) aB aD aC (D8 aZ aT) (D8 bA aU) aL aE aK) id kind res got).threads.map bH)))],[]):=by
  have hI':=hI
  simp only [cN,E0,decide_eq_true_eq] at hI'
  obtain ⟨⟨hchk,hge⟩,hlt⟩:=hI'
  have hid:id.toNat<aE.length:=by omega
  have hne:aE≠[]:=by intro h; subst h; simp at hlt; omega
  rw [show (eO (E5 (E4 aW aV aN aX aG aO aA) (E9 bT bV bU) aB aD aC (D8 aZ aT) (D8 bA aU) aL aE aK) id kind res got)=logged (dD (E5 (E4 aW aV aN aX aG aO aA) (E9 bT bV bU) aB aD aC (D8 aZ aT) (D8 bA aU) aL aE aK) id (nZ (me (E5 (E4 aW aV aN aX aG aO aA) (E9 bT bV bU) aB aD aC (D8 aZ aT) (D8 bA aU) aL aE aK) id) kind res got)) ⟨id,kind,(me (E5 (E4 aW aV aN aX aG aO aA) (E9 bT bV bU) aB aD aC (D8 aZ aT) (D8 bA aU) aL aE aK) id).val,res,got⟩ from if_pos hI]
  by_cases hk:kind=9
  · rw [show nZ (me (E5 (E4 aW aV aN aX aG aO aA) (E9 bT bV bU) aB aD aC (D8 aZ aT) (D8 bA aU) aL aE aK) id) kind res got=me (E5 (E4 aW aV aN aX aG aO aA) (E9 bT bV bU) aB aD aC (D8 aZ aT) (D8 bA aU) aL aE aK) id from by simp [nZ,hk]]
    rw [show (logged (dD (E5 (E4 aW aV aN aX aG aO aA) (E9 bT bV bU) aB aD aC (D8 aZ aT) (D8 bA aU) aL aE aK) id (me (E5 (E4 aW aV aN aX aG aO aA) (E9 bT bV bU) aB aD aC (D8 aZ aT) (D8 bA aU) aL aE aK) id)) ⟨id,kind,(me (E5 (E4 aW aV aN aX aG aO aA) (E9 bT bV bU) aB aD aC (D8 aZ aT) (D8 bA aU) aL aE aK) id).val,res,got⟩).threads=aE from tD (d:=default) hid]
    by_cases hnl:aK=[]
    · subst hnl; exact Vr h1 h2 h3 h4 h5 h6 hne hchk hge hlt hk
    · exact Vp h1 h2 h3 h4 h5 h6 h7 hne hchk hge hlt hk hnl
  · by_cases hnl:aK=[]
    · subst hnl; exact Vs h1 h2 h3 h4 h5 h6 hne hchk hge hlt hk
    · exact Vq h1 h2 h3 h4 h5 h6 h7 hne hchk hge hlt hk hnl
def BL:AFn:=⟨34,(.seq (.reg [o1 2 (.box 33 0),o1 4 (.mv (.const (.bool false)))]) (.seq (.seq (.reg [o1 6 (.ld 20 true 2),o1 7 (.call 18 [6]),o1 8 (.not 7),o1 9 (.mv 8),o4 10 (.mv 1) 9,o4 11 (.bin .lss 10 (ci 0)) 9,o1 12 (.pick 9 (.const (.bool true)) 11),o1 13 (.mv 12),o4 14 (.mv 1) 13,o4 15 (.faddr 18 2) 13,o4 16 (.ld 1 false 15) 13,o4 17 (.len 16) 13,o4 18 (.bin .geq 14 17) 13,o1 19 (.pick 13 (.const (.bool true)) 18)]) (.cond 19 (.seq (.reg [o1 4 (.mv (.const (.bool false)))]) .ret) .skip)) (.seq (.reg [o1 20 (.faddr 18 2),o1 21 (.ld 1 false 20),o1 22 (.mv 1),o1 23 (.iaddr 11 21 22),o1 24 (.ld 11 true 23),o1 5 (.alloc 42 [(.int .i64 0),(.int .i64 0),(.int .i64 0),(.int .i64 0),(.int .i64 0),(.int .i64 0),(.int .i64 0),(.int .i64 0),(.bool false),(.int .i64 0),(.int .i64 0)]),o2 (.st 11 5 24)]) (.seq (.reg [o1 25 (.ld 11 true 5),o1 26 (.call 124 [25]),o1 27 (.bin .eql 26 (ci 0)),o1 28 (.mv 27),o3 29 (.faddr 1 5) 28,o3 30 (.ld 1 false 29) 28,o3 31 (.call 75 [30]) 28,o3 32 (.bin .eql 31 (ci 1)) 28,o1 33 (.pick 28 32 (.const (.bool false))),o1 4 (.mv 33)]) .ret)))),[(4,none)]⟩
theorem SF:xf D9 221=some BL:=by kernel_rfl
theorem lY {aW aV:Int} {aN aX:Int} {aG aO:Int} {aA:Bool} {bT bV bU:Int} {aB:List Slot} {aD aC:List Int} {aZ:Int} {aT:List Int} {bA:Int} {aU:List Int} {aL:Int} {aE:List Thread} {aK:List Entry} {id:Int} (h1:aB.length≤100000000) (h2:aD.length≤100000000) (h3:aC.length≤100000000) (h4:aT.length≤100000000) (h5:aU.length≤100000000) (h6:aE.length≤100000000) (h7:aK.length≤100000000):cX D9 221 [.agg [.int .i64 aW,.int .i64 aV,.int .i64 aN,.int .i64 aX,.int .i64 aG,.int .i64 aO,.bool aA,.int .i64 bT,.int .i64 bV,.int .i64 bU,.slv 2 (aB.map cU),.slv 1 (aD.map aS),.slv 1 (aC.map aS),.int .i64 aZ,.slv 1 (aT.map aS),.int .i64 bA,.slv 1 (aU.map aS),.int .i64 aL,.slv 11 (aE.map bH),.slv 5 (aK.map cO)],.int .i64 id] (.bool (nQ (E5 (E4 aW aV aN aX aG aO aA) (E9 bT bV bU) aB aD aC (D8 aZ aT) (D8 bA aU) aL aE aK) id),[],[]):=by
  refine aI bP SF (by simp [BL]) fun hw _=>?_
  clear hw
  repeat' with_reducible first|refine aQ (fun h=>?_) (fun h=>?_)|refine bB (fun h=>?_) (fun h=>?_)|refine aF (fun h=>?_) (fun h=>?_)|refine aH (fun h=>?_) (fun h=>?_)|refine bJ ?_ ?_ ?_ ?_|refine aR ?_ ?_|refine bC ?_ ?_|refine bM ?_ ?_|refine P0 (iT ?_ ?_ ?_ ?_ ?_ ?_ ?_) ?_ ?_ ?_|refine eK (d:=default) ?_ ?_|refine L1 ?_ ?_|refine L2 ?_ ?_|refine L3 ?_ ?_ ?_ ?_|refine L4 ?_ ?_|refine L5 ?_ ?_ ?_ ?_ ?_|refine L6 ?_ ?_ ?_ ?_ ?_|refine P0 (kI) ?_ ?_ ?_|refine F3 (kI) ?_ ?_ ?_|refine F8 (kI) ?_ ?_|refine P0 (gJ) ?_ ?_ ?_|refine F3 (gJ) ?_ ?_ ?_|refine F8 (gJ) ?_ ?_|simp -implicitDefEqProofs only [BL,qA,bN,bD,bO,aJ,aP,qU,D2,D5,D6,D4,D1,D7,reduceIte,reduceCtorEq,qI,E3,E2,bH,E1, *]
  all_goals first
    | omega
    | (simp at *; omega)
    | grind [nQ,cN,me]
    | (simp only [nQ,cN,me]; simp_all; done)
    | (simp only [nQ,cN,me]; simp_all; omega)
    | skip

def CL:AFn:=⟨22,(.seq (.reg [o1 2 (.box 33 0),o1 4 (.mv (ci 0))]) (.seq (.seq (.reg [o1 5 (.ld 20 true 2),o1 6 (.call 18 [5]),o1 7 (.not 6),o1 8 (.mv 7),o4 9 (.mv 1) 8,o4 10 (.bin .lss 9 (ci 0)) 8,o1 11 (.pick 8 (.const (.bool true)) 10)]) (.cond 11 (.seq (.reg [o1 4 (.mv (ci 0))]) .ret) .skip)) (.seq (.regT [o1 12 (.faddr 10 2),o1 13 (.ld 1 false 12),o1 14 (.mv 1),o1 15 (.faddr 10 2),o1 16 (.ld 1 false 15),o1 17 (.len 16),o1 18 (.call 98 [14,17]),o1 19 (.iaddr 2 13 18),o1 20 (.faddr 1 19),o1 21 (.ld 1 false 20),o1 4 (.mv 21)] [(0,3),(1,3),(0,4),(1,4),(0,5),(1,5),(0,6),(1,6)]) .ret))),[(4,none)]⟩
theorem TE:xf D9 258=some CL:=by kernel_rfl
theorem Cw {s:State} (h:bZ s=true):1≤s.slots.length:=by
  simp only [bZ,dA,E0,decide_eq_true_eq] at h
  obtain ⟨⟨⟨⟨⟨⟨⟨⟨⟨⟨⟨⟨⟨_,_⟩,_⟩,⟨⟨_,h⟩,_⟩⟩,_⟩,_⟩,_⟩,_⟩,_⟩,_⟩,_⟩,_⟩,_⟩,_⟩:=h
  exact h
theorem Vo {aW aV:Int} {aN aX:Int} {aG aO:Int} {aA:Bool} {bT bV bU:Int} {aB:List Slot} {aD aC:List Int} {aZ:Int} {aT:List Int} {bA:Int} {aU:List Int} {aL:Int} {aE:List Thread} {aK:List Entry} {p:Int} (h1:aB.length≤100000000) (h2:aD.length≤100000000) (h3:aC.length≤100000000) (h4:aT.length≤100000000) (h5:aU.length≤100000000) (h6:aE.length≤100000000) (h7:aK.length≤100000000):cX D9 258 [.agg [.int .i64 aW,.int .i64 aV,.int .i64 aN,.int .i64 aX,.int .i64 aG,.int .i64 aO,.bool aA,.int .i64 bT,.int .i64 bV,.int .i64 bU,.slv 2 (aB.map cU),.slv 1 (aD.map aS),.slv 1 (aC.map aS),.int .i64 aZ,.slv 1 (aT.map aS),.int .i64 bA,.slv 1 (aU.map aS),.int .i64 aL,.slv 11 (aE.map bH),.slv 5 (aK.map cO)],.int .i64 p] (.int .i64 (sQ (E5 (E4 aW aV aN aX aG aO aA) (E9 bT bV bU) aB aD aC (D8 aZ aT) (D8 bA aU) aL aE aK) p),[],[]):=by
  refine aI bP TE (by simp [CL]) fun hw _=>?_
  clear hw
  repeat' with_reducible first|refine aQ (fun h=>?_) (fun h=>?_)|refine bB (fun h=>?_) (fun h=>?_)|refine aF (fun h=>?_) (fun h=>?_)|refine aH (fun h=>?_) (fun h=>?_)|refine bJ ?_ ?_ ?_ ?_|refine aR ?_ ?_|refine bC ?_ ?_|refine bM ?_ ?_|refine P0 (iT ?_ ?_ ?_ ?_ ?_ ?_ ?_) ?_ ?_ ?_|refine eK (d:=default) ?_ ?_|refine L1 ?_ ?_|refine L2 ?_ ?_|refine L3 ?_ ?_ ?_ ?_|refine L4 ?_ ?_|refine L5 ?_ ?_ ?_ ?_ ?_|refine L6 ?_ ?_ ?_ ?_ ?_|refine P0 (lS) ?_ ?_ ?_|refine F3 (lS) ?_ ?_ ?_|refine F8 (lS) ?_ ?_|simp -implicitDefEqProofs only [CL,qA,bN,bD,bO,aJ,aP,qU,D2,D5,D6,D4,D1,D7,reduceIte,reduceCtorEq,qI,E3,E2,cU,E1, *]
  all_goals (have hA:=kW p aB.length; have hB:=kV p aB.length)
  all_goals first
    | omega
    | (have hr:=Cw (s:=(E5 (E4 aW aV aN aX aG aO aA) (E9 bT bV bU) aB aD aC (D8 aZ aT) (D8 bA aU) aL aE aK)) (by first | assumption | (simp at *; assumption)); simp only [] at hr; grind [sQ,jN])
    | grind [sQ,jN]
    | skip

set_option maxHeartbeats 8000000
theorem qJ {aW aV:Int} {aN aX:Int} {aG aO:Int} {aA:Bool} {bT bV bU:Int} {aB:List Slot} {aD aC:List Int} {aZ:Int} {aT:List Int} {bA:Int} {aU:List Int} {aL:Int} {aE:List Thread} {aK:List Entry} {id:Int} (h1:aB.length≤100000000) (h2:aD.length≤100000000) (h3:aC.length≤100000000) (h4:aT.length≤100000000) (h5:aU.length≤100000000) (h6:aE.length≤100000000) (h7:aK.length≤100000000) (hne:aE≠[]):cX D9 41 [.agg [.int .i64 aW,.int .i64 aV,.int .i64 aN,.int .i64 aX,.int .i64 aG,.int .i64 aO,.bool aA,.int .i64 bT,.int .i64 bV,.int .i64 bU,.slv 2 (aB.map cU),.slv 1 (aD.map aS),.slv 1 (aC.map aS),.int .i64 aZ,.slv 1 (aT.map aS),.int .i64 bA,.slv 1 (aU.map aS),.int .i64 aL,.slv 11 (aE.map bH),.slv 5 (aK.map cO)],.int .i64 id] (.agg (dM (E5 (E4 aW aV aN aX aG aO aA) (E9 bT bV bU) aB aD aC (D8 aZ aT) (D8 bA aU) aL aE aK) (.slm 1 aE.length) (.slv 5 (aK.map cO))),[(1,some (.rows 42 11 ((cM (E5 (E4 aW aV aN aX aG aO aA) (E9 bT bV bU) aB aD aC (D8 aZ aT) (D8 bA aU) aL aE aK) id).threads.map bH)))],[]):=by
  by_cases hI:cN (E5 (E4 aW aV aN aX aG aO aA) (E9 bT bV bU) aB aD aC (D8 aZ aT) (D8 bA aU) aL aE aK) id=true
  · rw [show cM (E5 (E4 aW aV aN aX aG aO aA) (E9 bT bV bU) aB aD aC (D8 aZ aT) (D8 bA aU) aL aE aK) id=dD (E5 (E4 aW aV aN aX aG aO aA) (E9 bT bV bU) aB aD aC (D8 aZ aT) (D8 bA aU) aL aE aK) id (oS (me (E5 (E4 aW aV aN aX aG aO aA) (E9 bT bV bU) aB aD aC (D8 aZ aT) (D8 bA aU) aL aE aK) id)) from if_pos hI]
    have hI':=hI
    simp only [cN,E0,decide_eq_true_eq] at hI'
    obtain ⟨⟨hchk,hge⟩,hlt⟩:=hI'
    clear hI
    refine aI bP NG (by simp [Tp]) fun hw _=>?_
    clear hw
    repeat' with_reducible first|refine aQ (fun h=>?_) (fun h=>?_)|refine bB (fun h=>?_) (fun h=>?_)|refine aF (fun h=>?_) (fun h=>?_)|refine aH (fun h=>?_) (fun h=>?_)|refine Wx (by simp -implicitDefEqProofs only [qA,bN,bD,bO,aJ,aP,qU,D2,D5,D6,D4,D1,D7,reduceIte,reduceCtorEq,qI,E3,E2, *]; exact rfl) ?_ ?_ ?_|refine aR ?_ ?_|refine bC ?_ ?_|refine bM ?_ ?_|refine I0 bP AH Dm ?_ ?_ ?_ ?_ ?_|refine I0 bP Tm zY ?_ ?_ ?_ ?_ ?_|refine I0 bP UF FV ?_ ?_ ?_ ?_ ?_|refine IA ?_ ?_ ?_|refine L1 ?_ ?_|refine L2 ?_ ?_|refine L3 ?_ ?_ ?_ ?_|refine L4 ?_ ?_|refine L5 ?_ ?_ ?_ ?_ ?_|refine L6 ?_ ?_ ?_ ?_ ?_|refine P0 (iT ?_ ?_ ?_ ?_ ?_ ?_ ?_) ?_ ?_ ?_|refine N1 (nH hne ?_) ?_ ?_|refine P0 (dR ?_) ?_ ?_ ?_|refine F3 (dR ?_) ?_ ?_ ?_|refine F8 (dR ?_) ?_ ?_|refine P0 (eV ?_) ?_ ?_ ?_|refine F3 (eV ?_) ?_ ?_ ?_|refine F8 (eV ?_) ?_ ?_|refine P0 (gX ?_) ?_ ?_ ?_|refine F3 (gX ?_) ?_ ?_ ?_|refine F8 (gX ?_) ?_ ?_|refine P0 (sM) ?_ ?_ ?_|refine F3 (sM) ?_ ?_ ?_|refine F8 (sM) ?_ ?_|simp -implicitDefEqProofs only [Tp,qA,bN,bD,bO,aJ,aP,qU,D2,D5,D6,D4,D1,D7,reduceIte,reduceCtorEq,qI,E3,E2,Qo,Kq,JJ,cL,E1,bH, *]
    all_goals first
      | omega
      | (constructor <;> omega)
      | rfl
      | skip
  · rw [show cM (E5 (E4 aW aV aN aX aG aO aA) (E9 bT bV bU) aB aD aC (D8 aZ aT) (D8 bA aU) aL aE aK) id=(E5 (E4 aW aV aN aX aG aO aA) (E9 bT bV bU) aB aD aC (D8 aZ aT) (D8 bA aU) aL aE aK) from if_neg hI]
    have hI':bZ (E5 (E4 aW aV aN aX aG aO aA) (E9 bT bV bU) aB aD aC (D8 aZ aT) (D8 bA aU) aL aE aK)=false∨¬ id≥0∨¬ id<aE.length:=by
      simp only [cN,E0,decide_eq_true_eq] at hI
      by_cases h1:bZ (E5 (E4 aW aV aN aX aG aO aA) (E9 bT bV bU) aB aD aC (D8 aZ aT) (D8 bA aU) aL aE aK)=true
      · by_cases h2:id≥0
        · exact .inr (.inr fun h3=>hI ⟨⟨h1,h2⟩,h3⟩)
        · exact .inr (.inl h2)
      · exact .inl (by simpa using h1)
    clear hI
    rcases hI' with hI' | hI' | hI'
    all_goals refine aI bP NG (by simp [Tp]) fun hw _=>?_
    all_goals clear hw
    all_goals
      repeat' with_reducible first|refine aQ (fun h=>?_) (fun h=>?_)|refine bB (fun h=>?_) (fun h=>?_)|refine aF (fun h=>?_) (fun h=>?_)|refine aH (fun h=>?_) (fun h=>?_)|refine Wx (by simp -implicitDefEqProofs only [qA,bN,bD,bO,aJ,aP,qU,D2,D5,D6,D4,D1,D7,reduceIte,reduceCtorEq,qI,E3,E2, *]; exact rfl) ?_ ?_ ?_|refine aR ?_ ?_|refine bC ?_ ?_|refine bM ?_ ?_|refine I0 bP AH Dm ?_ ?_ ?_ ?_ ?_|refine I0 bP Tm zY ?_ ?_ ?_ ?_ ?_|refine I0 bP UF FV ?_ ?_ ?_ ?_ ?_|refine IA ?_ ?_ ?_|refine L1 ?_ ?_|refine L2 ?_ ?_|refine L3 ?_ ?_ ?_ ?_|refine L4 ?_ ?_|refine L5 ?_ ?_ ?_ ?_ ?_|refine L6 ?_ ?_ ?_ ?_ ?_|refine P0 (iT ?_ ?_ ?_ ?_ ?_ ?_ ?_) ?_ ?_ ?_|refine N1 (nH hne ?_) ?_ ?_|refine P0 (dR ?_) ?_ ?_ ?_|refine F3 (dR ?_) ?_ ?_ ?_|refine F8 (dR ?_) ?_ ?_|refine P0 (eV ?_) ?_ ?_ ?_|refine F3 (eV ?_) ?_ ?_ ?_|refine F8 (eV ?_) ?_ ?_|refine P0 (gX ?_) ?_ ?_ ?_|refine F3 (gX ?_) ?_ ?_ ?_|refine F8 (gX ?_) ?_ ?_|refine P0 (sM) ?_ ?_ ?_|refine F3 (sM) ?_ ?_ ?_|refine F8 (sM) ?_ ?_|simp -implicitDefEqProofs only [Tp,qA,bN,bD,bO,aJ,aP,qU,D2,D5,D6,D4,D1,D7,reduceIte,reduceCtorEq,qI,E3,E2,Qo,Kq,JJ,cL,E1,bH, *]
    all_goals first
      | omega
      | rfl
      | skip

end Go.Sak
