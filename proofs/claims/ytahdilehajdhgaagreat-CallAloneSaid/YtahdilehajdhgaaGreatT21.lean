/- Part T21 of the proofs about the program: K18, K19. Conditions: none. -/
import Derived.Test.YtahdilehajdhgaaGreatT18
open Go.Sak.ACK renaming of→F7
open Go.Sak.ACV renaming of→F2
open Bool renaming and_eq_true→D9
open Go.Sak.Config renaming mk→E3
open Go.Sak.Event renaming mk→D7
open Int renaming toNat_natCast→E0
open List renaming reduceReplicate→D1
open Nat renaming reduceAdd→D4,reduceBEq→E1,reduceEqDiff→D0,reduceLT→E2,reduceLeDiff→D3,reduceMul→D6,reduceSub→D5
open Go.Sak.State renaming mk→E4
open Go.Proofs.Tryz renaming prog→D8
open Go.Sak.Word renaming mk→E8
namespace Go.Sak
open Go Go.RowKit Go.Proofs
set_option linter.unusedVariables false
set_option linter.unusedSimpArgs false
set_option maxRecDepth 10000
set_option maxHeartbeats 8000000
theorem oH {aW aV:Int} {aN aX:Int} {aG aO:Int} {aA:Bool} {bT bV bU:Int} {aB:List Slot} {aD aC:List Int} {aZ:Int} {aT:List Int} {bA:Int} {aU:List Int} {aL:Int} {aE:List Thread} {aK:List Entry} {id kind res got:Int} (h1:aB.length≤100000000) (h2:aD.length≤100000000) (h3:aC.length≤100000000) (h4:aT.length≤100000000) (h5:aU.length≤100000000) (h6:aE.length≤100000000) (h7:aK.length≤100000000) (hI:cN (E4 (E3 aW aV aN aX aG aO aA) (E8 bT bV bU) aB aD aC (D7 aZ aT) (D7 bA aU) aL aE aK) id=true) :
    cX D8 279 [.agg [.int .i64 aW,.int .i64 aV,.int .i64 aN,.int .i64 aX,.int .i64 aG,.int .i64 aO,.bool aA,.int .i64 bT,.int .i64 bV,.int .i64 bU,.slv 2 (aB.map cU),.slv 1 (aD.map aS),.slv 1 (aC.map aS),.int .i64 aZ,.slv 1 (aT.map aS),.int .i64 bA,.slv 1 (aU.map aS),.int .i64 aL,.slv 11 (aE.map bH),.slv 5 (aK.map cO)],.int .i64 id,.int .i64 kind,.int .i64 res,.int .i64 got] (.agg (dM (E4 (E3 aW aV aN aX aG aO aA) (E8 bT bV bU) aB aD aC (D7 aZ aT) (D7 bA aU) aL aE aK) (.slm 1 aE.length) (.slv 5 ((eO (E4 (E3 aW aV aN aX aG aO aA) (E8 bT bV bU) aB aD aC (D7 aZ aT) (D7 bA aU) aL aE aK) id kind res got).log.map cO))),[(1,some (.rows 42 11 ((eO (E4 (E3 aW aV aN aX aG aO aA) (E8 bT bV bU) aB aD aC (D7 aZ aT) (D7 bA aU) aL aE aK) id kind res got).threads.map bH)))],[]):=by
  have hI':=hI
  simp only [cN,D9,decide_eq_true_eq] at hI'
  obtain ⟨⟨hchk,hge⟩,hlt⟩:=hI'
  have hid:id.toNat<aE.length:=by omega
  have hne:aE≠[]:=by intro h; subst h; simp at hlt; omega
  rw [show (eO (E4 (E3 aW aV aN aX aG aO aA) (E8 bT bV bU) aB aD aC (D7 aZ aT) (D7 bA aU) aL aE aK) id kind res got)=logged (dD (E4 (E3 aW aV aN aX aG aO aA) (E8 bT bV bU) aB aD aC (D7 aZ aT) (D7 bA aU) aL aE aK) id (nY (me (E4 (E3 aW aV aN aX aG aO aA) (E8 bT bV bU) aB aD aC (D7 aZ aT) (D7 bA aU) aL aE aK) id) kind res got)) ⟨id,kind,(me (E4 (E3 aW aV aN aX aG aO aA) (E8 bT bV bU) aB aD aC (D7 aZ aT) (D7 bA aU) aL aE aK) id).val,res,got⟩ from if_pos hI]
  by_cases hk:kind=9
  · rw [show nY (me (E4 (E3 aW aV aN aX aG aO aA) (E8 bT bV bU) aB aD aC (D7 aZ aT) (D7 bA aU) aL aE aK) id) kind res got=me (E4 (E3 aW aV aN aX aG aO aA) (E8 bT bV bU) aB aD aC (D7 aZ aT) (D7 bA aU) aL aE aK) id from by simp [nY,hk]]
    rw [show (logged (dD (E4 (E3 aW aV aN aX aG aO aA) (E8 bT bV bU) aB aD aC (D7 aZ aT) (D7 bA aU) aL aE aK) id (me (E4 (E3 aW aV aN aX aG aO aA) (E8 bT bV bU) aB aD aC (D7 aZ aT) (D7 bA aU) aL aE aK) id)) ⟨id,kind,(me (E4 (E3 aW aV aN aX aG aO aA) (E8 bT bV bU) aB aD aC (D7 aZ aT) (D7 bA aU) aL aE aK) id).val,res,got⟩).threads=aE from tC (d:=default) hid]
    by_cases hnl:aK=[]
    · subst hnl; exact Vq h1 h2 h3 h4 h5 h6 hne hchk hge hlt hk
    · exact Vo h1 h2 h3 h4 h5 h6 h7 hne hchk hge hlt hk hnl
  · by_cases hnl:aK=[]
    · subst hnl; exact Vr h1 h2 h3 h4 h5 h6 hne hchk hge hlt hk
    · exact Vp h1 h2 h3 h4 h5 h6 h7 hne hchk hge hlt hk hnl
def BK:AFn:=⟨34,(.seq (.reg [o1 2 (.box 33 0),o1 4 (.mv (.const (.bool false)))]) (.seq (.seq (.reg [o1 6 (.ld 20 true 2),o1 7 (.call 18 [6]),o1 8 (.not 7),o1 9 (.mv 8),o4 10 (.mv 1) 9,o4 11 (.bin .lss 10 (ci 0)) 9,o1 12 (.pick 9 (.const (.bool true)) 11),o1 13 (.mv 12),o4 14 (.mv 1) 13,o4 15 (.faddr 18 2) 13,o4 16 (.ld 1 false 15) 13,o4 17 (.len 16) 13,o4 18 (.bin .geq 14 17) 13,o1 19 (.pick 13 (.const (.bool true)) 18)]) (.cond 19 (.seq (.reg [o1 4 (.mv (.const (.bool false)))]) .ret) .skip)) (.seq (.reg [o1 20 (.faddr 18 2),o1 21 (.ld 1 false 20),o1 22 (.mv 1),o1 23 (.iaddr 11 21 22),o1 24 (.ld 11 true 23),o1 5 (.alloc 42 [(.int .i64 0),(.int .i64 0),(.int .i64 0),(.int .i64 0),(.int .i64 0),(.int .i64 0),(.int .i64 0),(.int .i64 0),(.bool false),(.int .i64 0),(.int .i64 0)]),o2 (.st 11 5 24)]) (.seq (.reg [o1 25 (.ld 11 true 5),o1 26 (.call 124 [25]),o1 27 (.bin .eql 26 (ci 0)),o1 28 (.mv 27),o3 29 (.faddr 1 5) 28,o3 30 (.ld 1 false 29) 28,o3 31 (.call 75 [30]) 28,o3 32 (.bin .eql 31 (ci 1)) 28,o1 33 (.pick 28 32 (.const (.bool false))),o1 4 (.mv 33)]) .ret)))),[(4,none)]⟩
theorem SE:xf D8 221=some BK:=by kernel_rfl
theorem lX {aW aV:Int} {aN aX:Int} {aG aO:Int} {aA:Bool} {bT bV bU:Int} {aB:List Slot} {aD aC:List Int} {aZ:Int} {aT:List Int} {bA:Int} {aU:List Int} {aL:Int} {aE:List Thread} {aK:List Entry} {id:Int} (h1:aB.length≤100000000) (h2:aD.length≤100000000) (h3:aC.length≤100000000) (h4:aT.length≤100000000) (h5:aU.length≤100000000) (h6:aE.length≤100000000) (h7:aK.length≤100000000):cX D8 221 [.agg [.int .i64 aW,.int .i64 aV,.int .i64 aN,.int .i64 aX,.int .i64 aG,.int .i64 aO,.bool aA,.int .i64 bT,.int .i64 bV,.int .i64 bU,.slv 2 (aB.map cU),.slv 1 (aD.map aS),.slv 1 (aC.map aS),.int .i64 aZ,.slv 1 (aT.map aS),.int .i64 bA,.slv 1 (aU.map aS),.int .i64 aL,.slv 11 (aE.map bH),.slv 5 (aK.map cO)],.int .i64 id] (.bool (nP (E4 (E3 aW aV aN aX aG aO aA) (E8 bT bV bU) aB aD aC (D7 aZ aT) (D7 bA aU) aL aE aK) id),[],[]):=by
  refine aI bP SE (by simp [BK]) fun hw _=>?_
  clear hw
  repeat' with_reducible first|refine aQ (fun h=>?_) (fun h=>?_)|refine bB (fun h=>?_) (fun h=>?_)|refine aF (fun h=>?_) (fun h=>?_)|refine aH (fun h=>?_) (fun h=>?_)|refine bJ ?_ ?_ ?_ ?_|refine aR ?_ ?_|refine bC ?_ ?_|refine bM ?_ ?_|refine P0 (iS ?_ ?_ ?_ ?_ ?_ ?_ ?_) ?_ ?_ ?_|refine eK (d:=default) ?_ ?_|refine L1 ?_ ?_|refine L2 ?_ ?_|refine L3 ?_ ?_ ?_ ?_|refine L4 ?_ ?_|refine L5 ?_ ?_ ?_ ?_ ?_|refine L6 ?_ ?_ ?_ ?_ ?_|refine P0 (kH) ?_ ?_ ?_|refine F2 (kH) ?_ ?_ ?_|refine F7 (kH) ?_ ?_|refine P0 (gI) ?_ ?_ ?_|refine F2 (gI) ?_ ?_ ?_|refine F7 (gI) ?_ ?_|simp -implicitDefEqProofs only [BK,qA,bN,bD,bO,aJ,aP,qU,D1,D4,D5,D3,D0,D6,reduceIte,reduceCtorEq,qI,E2,E1,bH,E0, *]
  all_goals first
    | omega
    | (simp at *; omega)
    | grind [nP,cN,me]
    | (simp only [nP,cN,me]; simp_all; done)
    | (simp only [nP,cN,me]; simp_all; omega)
    | skip

def CJ:AFn:=⟨22,(.seq (.reg [o1 2 (.box 33 0),o1 4 (.mv (ci 0))]) (.seq (.seq (.reg [o1 5 (.ld 20 true 2),o1 6 (.call 18 [5]),o1 7 (.not 6),o1 8 (.mv 7),o4 9 (.mv 1) 8,o4 10 (.bin .lss 9 (ci 0)) 8,o1 11 (.pick 8 (.const (.bool true)) 10)]) (.cond 11 (.seq (.reg [o1 4 (.mv (ci 0))]) .ret) .skip)) (.seq (.regT [o1 12 (.faddr 10 2),o1 13 (.ld 1 false 12),o1 14 (.mv 1),o1 15 (.faddr 10 2),o1 16 (.ld 1 false 15),o1 17 (.len 16),o1 18 (.call 98 [14,17]),o1 19 (.iaddr 2 13 18),o1 20 (.faddr 1 19),o1 21 (.ld 1 false 20),o1 4 (.mv 21)] [(0,3),(1,3),(0,4),(1,4),(0,5),(1,5),(0,6),(1,6)]) .ret))),[(4,none)]⟩
theorem TD:xf D8 258=some CJ:=by kernel_rfl
theorem Cv {s:State} (h:bZ s=true):1≤s.slots.length:=by
  simp only [bZ,dA,D9,decide_eq_true_eq] at h
  obtain ⟨⟨⟨⟨⟨⟨⟨⟨⟨⟨⟨⟨⟨_,_⟩,_⟩,⟨⟨_,h⟩,_⟩⟩,_⟩,_⟩,_⟩,_⟩,_⟩,_⟩,_⟩,_⟩,_⟩,_⟩:=h
  exact h
theorem Vn {aW aV:Int} {aN aX:Int} {aG aO:Int} {aA:Bool} {bT bV bU:Int} {aB:List Slot} {aD aC:List Int} {aZ:Int} {aT:List Int} {bA:Int} {aU:List Int} {aL:Int} {aE:List Thread} {aK:List Entry} {p:Int} (h1:aB.length≤100000000) (h2:aD.length≤100000000) (h3:aC.length≤100000000) (h4:aT.length≤100000000) (h5:aU.length≤100000000) (h6:aE.length≤100000000) (h7:aK.length≤100000000):cX D8 258 [.agg [.int .i64 aW,.int .i64 aV,.int .i64 aN,.int .i64 aX,.int .i64 aG,.int .i64 aO,.bool aA,.int .i64 bT,.int .i64 bV,.int .i64 bU,.slv 2 (aB.map cU),.slv 1 (aD.map aS),.slv 1 (aC.map aS),.int .i64 aZ,.slv 1 (aT.map aS),.int .i64 bA,.slv 1 (aU.map aS),.int .i64 aL,.slv 11 (aE.map bH),.slv 5 (aK.map cO)],.int .i64 p] (.int .i64 (sP (E4 (E3 aW aV aN aX aG aO aA) (E8 bT bV bU) aB aD aC (D7 aZ aT) (D7 bA aU) aL aE aK) p),[],[]):=by
  refine aI bP TD (by simp [CJ]) fun hw _=>?_
  clear hw
  repeat' with_reducible first|refine aQ (fun h=>?_) (fun h=>?_)|refine bB (fun h=>?_) (fun h=>?_)|refine aF (fun h=>?_) (fun h=>?_)|refine aH (fun h=>?_) (fun h=>?_)|refine bJ ?_ ?_ ?_ ?_|refine aR ?_ ?_|refine bC ?_ ?_|refine bM ?_ ?_|refine P0 (iS ?_ ?_ ?_ ?_ ?_ ?_ ?_) ?_ ?_ ?_|refine eK (d:=default) ?_ ?_|refine L1 ?_ ?_|refine L2 ?_ ?_|refine L3 ?_ ?_ ?_ ?_|refine L4 ?_ ?_|refine L5 ?_ ?_ ?_ ?_ ?_|refine L6 ?_ ?_ ?_ ?_ ?_|refine P0 (lR) ?_ ?_ ?_|refine F2 (lR) ?_ ?_ ?_|refine F7 (lR) ?_ ?_|simp -implicitDefEqProofs only [CJ,qA,bN,bD,bO,aJ,aP,qU,D1,D4,D5,D3,D0,D6,reduceIte,reduceCtorEq,qI,E2,E1,cU,E0, *]
  all_goals (have hA:=kV p aB.length; have hB:=kU p aB.length)
  all_goals first
    | omega
    | (have hr:=Cv (s:=(E4 (E3 aW aV aN aX aG aO aA) (E8 bT bV bU) aB aD aC (D7 aZ aT) (D7 bA aU) aL aE aK)) (by first | assumption | (simp at *; assumption)); simp only [] at hr; grind [sP,jM])
    | grind [sP,jM]
    | skip

set_option maxHeartbeats 8000000
theorem qH {aW aV:Int} {aN aX:Int} {aG aO:Int} {aA:Bool} {bT bV bU:Int} {aB:List Slot} {aD aC:List Int} {aZ:Int} {aT:List Int} {bA:Int} {aU:List Int} {aL:Int} {aE:List Thread} {aK:List Entry} {id:Int} (h1:aB.length≤100000000) (h2:aD.length≤100000000) (h3:aC.length≤100000000) (h4:aT.length≤100000000) (h5:aU.length≤100000000) (h6:aE.length≤100000000) (h7:aK.length≤100000000) (hne:aE≠[]):cX D8 41 [.agg [.int .i64 aW,.int .i64 aV,.int .i64 aN,.int .i64 aX,.int .i64 aG,.int .i64 aO,.bool aA,.int .i64 bT,.int .i64 bV,.int .i64 bU,.slv 2 (aB.map cU),.slv 1 (aD.map aS),.slv 1 (aC.map aS),.int .i64 aZ,.slv 1 (aT.map aS),.int .i64 bA,.slv 1 (aU.map aS),.int .i64 aL,.slv 11 (aE.map bH),.slv 5 (aK.map cO)],.int .i64 id] (.agg (dM (E4 (E3 aW aV aN aX aG aO aA) (E8 bT bV bU) aB aD aC (D7 aZ aT) (D7 bA aU) aL aE aK) (.slm 1 aE.length) (.slv 5 (aK.map cO))),[(1,some (.rows 42 11 ((cM (E4 (E3 aW aV aN aX aG aO aA) (E8 bT bV bU) aB aD aC (D7 aZ aT) (D7 bA aU) aL aE aK) id).threads.map bH)))],[]):=by
  by_cases hI:cN (E4 (E3 aW aV aN aX aG aO aA) (E8 bT bV bU) aB aD aC (D7 aZ aT) (D7 bA aU) aL aE aK) id=true
  · rw [show cM (E4 (E3 aW aV aN aX aG aO aA) (E8 bT bV bU) aB aD aC (D7 aZ aT) (D7 bA aU) aL aE aK) id=dD (E4 (E3 aW aV aN aX aG aO aA) (E8 bT bV bU) aB aD aC (D7 aZ aT) (D7 bA aU) aL aE aK) id (oR (me (E4 (E3 aW aV aN aX aG aO aA) (E8 bT bV bU) aB aD aC (D7 aZ aT) (D7 bA aU) aL aE aK) id)) from if_pos hI]
    have hI':=hI
    simp only [cN,D9,decide_eq_true_eq] at hI'
    obtain ⟨⟨hchk,hge⟩,hlt⟩:=hI'
    clear hI
    refine aI bP NE (by simp [To]) fun hw _=>?_
    clear hw
    repeat' with_reducible first|refine aQ (fun h=>?_) (fun h=>?_)|refine bB (fun h=>?_) (fun h=>?_)|refine aF (fun h=>?_) (fun h=>?_)|refine aH (fun h=>?_) (fun h=>?_)|refine Ww (by simp -implicitDefEqProofs only [qA,bN,bD,bO,aJ,aP,qU,D1,D4,D5,D3,D0,D6,reduceIte,reduceCtorEq,qI,E2,E1, *]; exact rfl) ?_ ?_ ?_|refine aR ?_ ?_|refine bC ?_ ?_|refine bM ?_ ?_|refine I0 bP AG Dl ?_ ?_ ?_ ?_ ?_|refine I0 bP Tl zX ?_ ?_ ?_ ?_ ?_|refine I0 bP UE FU ?_ ?_ ?_ ?_ ?_|refine IA ?_ ?_ ?_|refine L1 ?_ ?_|refine L2 ?_ ?_|refine L3 ?_ ?_ ?_ ?_|refine L4 ?_ ?_|refine L5 ?_ ?_ ?_ ?_ ?_|refine L6 ?_ ?_ ?_ ?_ ?_|refine P0 (iS ?_ ?_ ?_ ?_ ?_ ?_ ?_) ?_ ?_ ?_|refine N1 (nG hne ?_) ?_ ?_|refine P0 (dR ?_) ?_ ?_ ?_|refine F2 (dR ?_) ?_ ?_ ?_|refine F7 (dR ?_) ?_ ?_|refine P0 (eV ?_) ?_ ?_ ?_|refine F2 (eV ?_) ?_ ?_ ?_|refine F7 (eV ?_) ?_ ?_|refine P0 (gW ?_) ?_ ?_ ?_|refine F2 (gW ?_) ?_ ?_ ?_|refine F7 (gW ?_) ?_ ?_|refine P0 (sL) ?_ ?_ ?_|refine F2 (sL) ?_ ?_ ?_|refine F7 (sL) ?_ ?_|simp -implicitDefEqProofs only [To,qA,bN,bD,bO,aJ,aP,qU,D1,D4,D5,D3,D0,D6,reduceIte,reduceCtorEq,qI,E2,E1,Qn,Kp,JI,cL,E0,bH, *]
    all_goals first
      | omega
      | (constructor <;> omega)
      | rfl
      | skip
  · rw [show cM (E4 (E3 aW aV aN aX aG aO aA) (E8 bT bV bU) aB aD aC (D7 aZ aT) (D7 bA aU) aL aE aK) id=(E4 (E3 aW aV aN aX aG aO aA) (E8 bT bV bU) aB aD aC (D7 aZ aT) (D7 bA aU) aL aE aK) from if_neg hI]
    have hI':bZ (E4 (E3 aW aV aN aX aG aO aA) (E8 bT bV bU) aB aD aC (D7 aZ aT) (D7 bA aU) aL aE aK)=false∨¬ id≥0∨¬ id<aE.length:=by
      simp only [cN,D9,decide_eq_true_eq] at hI
      by_cases h1:bZ (E4 (E3 aW aV aN aX aG aO aA) (E8 bT bV bU) aB aD aC (D7 aZ aT) (D7 bA aU) aL aE aK)=true
      · by_cases h2:id≥0
        · exact .inr (.inr fun h3=>hI ⟨⟨h1,h2⟩,h3⟩)
        · exact .inr (.inl h2)
      · exact .inl (by simpa using h1)
    clear hI
    rcases hI' with hI' | hI' | hI'
    all_goals refine aI bP NE (by simp [To]) fun hw _=>?_
    all_goals clear hw
    all_goals
      repeat' with_reducible first|refine aQ (fun h=>?_) (fun h=>?_)|refine bB (fun h=>?_) (fun h=>?_)|refine aF (fun h=>?_) (fun h=>?_)|refine aH (fun h=>?_) (fun h=>?_)|refine Ww (by simp -implicitDefEqProofs only [qA,bN,bD,bO,aJ,aP,qU,D1,D4,D5,D3,D0,D6,reduceIte,reduceCtorEq,qI,E2,E1, *]; exact rfl) ?_ ?_ ?_|refine aR ?_ ?_|refine bC ?_ ?_|refine bM ?_ ?_|refine I0 bP AG Dl ?_ ?_ ?_ ?_ ?_|refine I0 bP Tl zX ?_ ?_ ?_ ?_ ?_|refine I0 bP UE FU ?_ ?_ ?_ ?_ ?_|refine IA ?_ ?_ ?_|refine L1 ?_ ?_|refine L2 ?_ ?_|refine L3 ?_ ?_ ?_ ?_|refine L4 ?_ ?_|refine L5 ?_ ?_ ?_ ?_ ?_|refine L6 ?_ ?_ ?_ ?_ ?_|refine P0 (iS ?_ ?_ ?_ ?_ ?_ ?_ ?_) ?_ ?_ ?_|refine N1 (nG hne ?_) ?_ ?_|refine P0 (dR ?_) ?_ ?_ ?_|refine F2 (dR ?_) ?_ ?_ ?_|refine F7 (dR ?_) ?_ ?_|refine P0 (eV ?_) ?_ ?_ ?_|refine F2 (eV ?_) ?_ ?_ ?_|refine F7 (eV ?_) ?_ ?_|refine P0 (gW ?_) ?_ ?_ ?_|refine F2 (gW ?_) ?_ ?_ ?_|refine F7 (gW ?_) ?_ ?_|refine P0 (sL) ?_ ?_ ?_|refine F2 (sL) ?_ ?_ ?_|refine F7 (sL) ?_ ?_|simp -implicitDefEqProofs only [To,qA,bN,bD,bO,aJ,aP,qU,D1,D4,D5,D3,D0,D6,reduceIte,reduceCtorEq,qI,E2,E1,Qn,Kp,JI,cL,E0,bH, *]
    all_goals first
      | omega
      | rfl
      | skip

end Go.Sak
