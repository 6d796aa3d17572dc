/- Part T55 of the proofs about the program: K54, K55, K56, K57. Conditions: none. -/
import Derived.Test.YtahdilehajdhgaaGreatT51
open Go.Sak.Blk renaming inN→P3,nms→Q6
open Bool renaming and_eq_true→E0,false_eq_true→G1,not_eq_true→I4
open Go.Sak.Config renaming mk→E4
open Go.Sak.Event renaming mk→D8
open Int renaming le_refl→K0,reduceEq→F5,reduceLE→J3,reduceLT→H8,reduceNe→F6,reduceToNat→I5,toNat_natCast→E1,toNat_one→J4,toNat_zero→H2
open List renaming flatMap_cons→J5,flatMap_nil→J9,length_set→G9,reduceReplicate→D2,take_of_length_le→F4
open Nat renaming mul_one→L7,reduceAdd→D5,reduceBEq→E2,reduceEqDiff→D1,reduceLT→E3,reduceLeDiff→D4,reduceMul→D7,reduceSub→D6
open Go.Sak.State renaming mk→E5
open Go.Sak.Wk renaming of_eq→H3,refl→G4
open Go.Sak.Word renaming mk→E9
namespace Go.Sak
open Go Go.RowKit Go.Proofs
set_option linter.unusedVariables false
set_option linter.unusedSimpArgs false
set_option maxRecDepth 10000
set_option maxHeartbeats 8000000
theorem Vb {aW aV:Int} {aN aX:Int} {aG aO:Int} {aA:Bool} {bT bV bU:Int} {aB:List Slot} {aD aC:List Int} {aZ:Int} {aT:List Int} {bA:Int} {aU:List Int} {aL:Int} {aE:List Thread} {aK:List Entry} {id:Int} (h1:aB.length≤100000000) (h2:aD.length≤100000000) (h3:aC.length≤100000000) (h4:aT.length≤100000000) (h5:aU.length≤100000000) (h6:aE.length≤100000000) (h7:aK.length≤100000000) (hI:nJ (E5 (E4 aW aV aN aX aG aO aA) (E9 bT bV bU) aB aD aC (D8 aZ aT) (D8 bA aU) aL aE aK) id=true) (hpc:(aE.getD id.toNat default).pc=4):cX Tryz.prog 190 [.agg [.int .i64 aW,.int .i64 aV,.int .i64 aN,.int .i64 aX,.int .i64 aG,.int .i64 aO,.bool aA,.int .i64 bT,.int .i64 bV,.int .i64 bU,.slv 2 (aB.map cU),.slv 1 (aD.map aS),.slv 1 (aC.map aS),.int .i64 aZ,.slv 1 (aT.map aS),.int .i64 bA,.slv 1 (aU.map aS),.int .i64 aL,.slv 11 (aE.map bH),.slv 5 (aK.map cO)],.int .i64 id] (.agg (bR (Ej (E5 (E4 aW aV aN aX aG aO aA) (E9 bT bV bU) aB aD aC (D8 aZ aT) (D8 bA aU) aL aE aK) id)),[],[]):=by
  have hI':=hI
  simp only [nJ,cN,E0,decide_eq_true_eq] at hI'
  obtain ⟨⟨⟨⟨hchk,hge⟩,hlt⟩,hruns⟩,hside⟩:=hI'
  have hid:id.toNat<aE.length:=by omega
  have hne:aE≠[]:=by intro h; subst h; simp at hlt; omega
  refine aI bP xL (by simp [lN]) fun hw _=>?_
  clear hw
  repeat' with_reducible first|refine aQ (fun h=>?_) (fun h=>?_)|refine bB (fun h=>?_) (fun h=>?_)|refine aF (fun h=>?_) (fun h=>?_)|refine aH (fun h=>?_) (fun h=>?_)|refine FN ?_ ?_ ?_ ?_ rfl ?_|refine aR ?_ ?_|refine bC ?_ ?_|refine bM ?_ ?_|refine I2 bP TM PT ?_ ?_ ?_ ?_ ?_|refine I2 bP yX sA ?_ ?_ ?_ ?_ ?_|refine Hg [(209,209),(241,210)] ?_ ?_ ?_|refine IA ?_ ?_ ?_|refine L1 ?_ ?_|refine L2 ?_ ?_|refine L3 ?_ ?_ ?_ ?_|refine L4 ?_ ?_|refine L5 ?_ ?_ ?_ ?_ ?_|refine L6 ?_ ?_ ?_ ?_ ?_|refine N1 (gG ?_ ?_ ?_ ?_ ?_ ?_ ?_ hne) ?_ ?_|refine P0 (lZ ?_ ?_ ?_ ?_ ?_ ?_ ?_) ?_ ?_ ?_|refine I2 bP yT rW ?_ ?_ ?_ ?_ ?_|refine IA ?_ ?_ ?_|refine I3 bP yU rX ?_ ?_ ?_ ?_ ?_|refine I3 bP yY sB ?_ ?_ ?_ ?_ ?_|refine dE ?_ ?_ ?_ ?_|refine P0 (Lb ?_) ?_ ?_ ?_|refine ACV.of (Lb ?_) ?_ ?_ ?_|refine ACK.of (Lb ?_) ?_ ?_|refine P0 (yA ?_) ?_ ?_ ?_|refine ACV.of (yA ?_) ?_ ?_ ?_|refine ACK.of (yA ?_) ?_ ?_|simp -implicitDefEqProofs only [lN,qA,bN,bD,bO,aJ,aP,qU,D2,D5,D6,D4,D1,D7,reduceIte,reduceCtorEq,qI,E3,E2,CU,uS,cL,E1,bH,fM,eX,fJ,AV.isInt,dV,P3,Q6,J5,J9,dM,dO,iA,hpc,hI,I5,L7,cE,cG,J3,H8,F5,F6,H2,J4,K0,set_set,bG,uP,uT,uO, *]
  all_goals first
    | omega
    | (constructor <;> omega)
    | exact G4 _
    | (simp only [nJ,E0] at hI; with_reducible exact hI.1.1)
    | (refine H3 ?_
       have htr:=eU hchk hge hlt
       try simp only [decide_eq_true_eq,decide_eq_false_iff_not,I4] at *
       unfold Ej
       try simp only [me] at *
       have hw:=cV htr
       clear hchk hI hside hruns htr
       try simp only [*,reduceIte,if_true,if_false,G1,and_true,true_and,and_false,false_and,and_self,not_true_eq_false,not_false_eq_true,ne_eq,F5,F6]
       try rw [F4 (by simp [cE,cG])]
       simp only [bR,dM,dO,lA,cK,cR,eI,cQ,cH,vJ,kN,fZ,gE,iE,fB,eP,kL,dD,dU,me,bG,set_set,G9,hD,fQ,eT,eS,eR,fP,eQ,hG,gR,fH,eF,eE,eD,fG,eC,gU,gS,hP hpc, *]
       done)
    | skip

set_option maxHeartbeats 8000000
theorem Vc {aW aV:Int} {aN aX:Int} {aG aO:Int} {aA:Bool} {bT bV bU:Int} {aB:List Slot} {aD aC:List Int} {aZ:Int} {aT:List Int} {bA:Int} {aU:List Int} {aL:Int} {aE:List Thread} {aK:List Entry} {id:Int} (h1:aB.length≤100000000) (h2:aD.length≤100000000) (h3:aC.length≤100000000) (h4:aT.length≤100000000) (h5:aU.length≤100000000) (h6:aE.length≤100000000) (h7:aK.length≤100000000) (hI:nJ (E5 (E4 aW aV aN aX aG aO aA) (E9 bT bV bU) aB aD aC (D8 aZ aT) (D8 bA aU) aL aE aK) id=true) (hpc:(aE.getD id.toNat default).pc=5):cX Tryz.prog 190 [.agg [.int .i64 aW,.int .i64 aV,.int .i64 aN,.int .i64 aX,.int .i64 aG,.int .i64 aO,.bool aA,.int .i64 bT,.int .i64 bV,.int .i64 bU,.slv 2 (aB.map cU),.slv 1 (aD.map aS),.slv 1 (aC.map aS),.int .i64 aZ,.slv 1 (aT.map aS),.int .i64 bA,.slv 1 (aU.map aS),.int .i64 aL,.slv 11 (aE.map bH),.slv 5 (aK.map cO)],.int .i64 id] (.agg (bR (wR (E5 (E4 aW aV aN aX aG aO aA) (E9 bT bV bU) aB aD aC (D8 aZ aT) (D8 bA aU) aL aE aK) id)),[],[]):=by
  have hI':=hI
  simp only [nJ,cN,E0,decide_eq_true_eq] at hI'
  obtain ⟨⟨⟨⟨hchk,hge⟩,hlt⟩,hruns⟩,hside⟩:=hI'
  have hid:id.toNat<aE.length:=by omega
  have hne:aE≠[]:=by intro h; subst h; simp at hlt; omega
  refine aI bP xL (by simp [lN]) fun hw _=>?_
  clear hw
  repeat' with_reducible first|refine aQ (fun h=>?_) (fun h=>?_)|refine bB (fun h=>?_) (fun h=>?_)|refine aF (fun h=>?_) (fun h=>?_)|refine aH (fun h=>?_) (fun h=>?_)|refine FN ?_ ?_ ?_ ?_ rfl ?_|refine aR ?_ ?_|refine bC ?_ ?_|refine bM ?_ ?_|refine I2 bP TO PU ?_ ?_ ?_ ?_ ?_|refine I2 bP yX sA ?_ ?_ ?_ ?_ ?_|refine Hg [(209,209),(241,210)] ?_ ?_ ?_|refine IA ?_ ?_ ?_|refine L1 ?_ ?_|refine L2 ?_ ?_|refine L3 ?_ ?_ ?_ ?_|refine L4 ?_ ?_|refine L5 ?_ ?_ ?_ ?_ ?_|refine L6 ?_ ?_ ?_ ?_ ?_|refine N1 (gG ?_ ?_ ?_ ?_ ?_ ?_ ?_ hne) ?_ ?_|refine P0 (lZ ?_ ?_ ?_ ?_ ?_ ?_ ?_) ?_ ?_ ?_|refine I2 bP yT rW ?_ ?_ ?_ ?_ ?_|refine IA ?_ ?_ ?_|refine I3 bP yU rX ?_ ?_ ?_ ?_ ?_|refine I3 bP yY sB ?_ ?_ ?_ ?_ ?_|refine dE ?_ ?_ ?_ ?_|refine P0 (xW ?_) ?_ ?_ ?_|refine ACV.of (xW ?_) ?_ ?_ ?_|refine ACK.of (xW ?_) ?_ ?_|simp -implicitDefEqProofs only [lN,qA,bN,bD,bO,aJ,aP,qU,D2,D5,D6,D4,D1,D7,reduceIte,reduceCtorEq,qI,E3,E2,CW,uS,cL,E1,bH,fM,eX,fJ,AV.isInt,dV,P3,Q6,J5,J9,dM,dO,iA,hpc,hI,I5,L7,cE,cG,J3,H8,F5,F6,H2,J4,K0,set_set,bG,uP,uT,uO, *]
  all_goals first
    | omega
    | (constructor <;> omega)
    | exact G4 _
    | (simp only [nJ,E0] at hI; with_reducible exact hI.1.1)
    | (refine H3 ?_
       have htr:=eU hchk hge hlt
       try simp only [decide_eq_true_eq,decide_eq_false_iff_not,I4] at *
       unfold wR
       try simp only [me] at *
       have hw:=cV htr
       clear hchk hI hside hruns htr
       try simp only [*,reduceIte,if_true,if_false,G1,and_true,true_and,and_false,false_and,and_self,not_true_eq_false,not_false_eq_true,ne_eq,F5,F6]
       try rw [F4 (by simp [cE,cG])]
       simp only [bR,dM,dO,lA,cK,cR,eI,cQ,cH,vJ,kN,fZ,gE,iE,fB,eP,kL,dD,dU,me,bG,set_set,G9,hD,fQ,eT,eS,eR,fP,eQ,hG,gR,fH,eF,eE,eD,fG,eC,gU,gS,hP hpc, *]
       done)
    | skip

theorem Ve {aW aV:Int} {aN aX:Int} {aG aO:Int} {aA:Bool} {bT bV bU:Int} {aB:List Slot} {aD aC:List Int} {aZ:Int} {aT:List Int} {bA:Int} {aU:List Int} {aL:Int} {aE:List Thread} {aK:List Entry} {id:Int} (h1:aB.length≤100000000) (h2:aD.length≤100000000) (h3:aC.length≤100000000) (h4:aT.length≤100000000) (h5:aU.length≤100000000) (h6:aE.length≤100000000) (h7:aK.length≤100000000) (hI:nJ (E5 (E4 aW aV aN aX aG aO aA) (E9 bT bV bU) aB aD aC (D8 aZ aT) (D8 bA aU) aL aE aK) id=true) (hpc:(aE.getD id.toNat default).pc=7):cX Tryz.prog 190 [.agg [.int .i64 aW,.int .i64 aV,.int .i64 aN,.int .i64 aX,.int .i64 aG,.int .i64 aO,.bool aA,.int .i64 bT,.int .i64 bV,.int .i64 bU,.slv 2 (aB.map cU),.slv 1 (aD.map aS),.slv 1 (aC.map aS),.int .i64 aZ,.slv 1 (aT.map aS),.int .i64 bA,.slv 1 (aU.map aS),.int .i64 aL,.slv 11 (aE.map bH),.slv 5 (aK.map cO)],.int .i64 id] (.agg (bR (uY (E5 (E4 aW aV aN aX aG aO aA) (E9 bT bV bU) aB aD aC (D8 aZ aT) (D8 bA aU) aL aE aK) id)),[],[]):=by
  have hI':=hI
  simp only [nJ,cN,E0,decide_eq_true_eq] at hI'
  obtain ⟨⟨⟨⟨hchk,hge⟩,hlt⟩,hruns⟩,hside⟩:=hI'
  have hid:id.toNat<aE.length:=by omega
  have hne:aE≠[]:=by intro h; subst h; simp at hlt; omega
  refine aI bP xL (by simp [lN]) fun hw _=>?_
  clear hw
  repeat' with_reducible first|refine aQ (fun h=>?_) (fun h=>?_)|refine bB (fun h=>?_) (fun h=>?_)|refine aF (fun h=>?_) (fun h=>?_)|refine aH (fun h=>?_) (fun h=>?_)|refine FN ?_ ?_ ?_ ?_ rfl ?_|refine aR ?_ ?_|refine bC ?_ ?_|refine bM ?_ ?_|refine I2 bP TQ PW ?_ ?_ ?_ ?_ ?_|refine I2 bP yX sA ?_ ?_ ?_ ?_ ?_|refine Hg [(209,209),(241,210)] ?_ ?_ ?_|refine IA ?_ ?_ ?_|refine L1 ?_ ?_|refine L2 ?_ ?_|refine L3 ?_ ?_ ?_ ?_|refine L4 ?_ ?_|refine L5 ?_ ?_ ?_ ?_ ?_|refine L6 ?_ ?_ ?_ ?_ ?_|refine N1 (gG ?_ ?_ ?_ ?_ ?_ ?_ ?_ hne) ?_ ?_|refine P0 (lZ ?_ ?_ ?_ ?_ ?_ ?_ ?_) ?_ ?_ ?_|refine I2 bP yT rW ?_ ?_ ?_ ?_ ?_|refine IA ?_ ?_ ?_|refine I3 bP yU rX ?_ ?_ ?_ ?_ ?_|refine I3 bP yY sB ?_ ?_ ?_ ?_ ?_|refine dE ?_ ?_ ?_ ?_|refine P0 (rP) ?_ ?_ ?_|refine ACV.of (rP) ?_ ?_ ?_|refine ACK.of (rP) ?_ ?_|simp -implicitDefEqProofs only [lN,qA,bN,bD,bO,aJ,aP,qU,D2,D5,D6,D4,D1,D7,reduceIte,reduceCtorEq,qI,E3,E2,CY,uS,cL,E1,bH,fM,eX,fJ,AV.isInt,dV,P3,Q6,J5,J9,dM,dO,iA,hpc,hI,I5,L7,cE,cG,J3,H8,F5,F6,H2,J4,K0,set_set,bG,uP,uT,uO, *]
  all_goals first
    | omega
    | (constructor <;> omega)
    | exact G4 _
    | (simp only [nJ,E0] at hI; with_reducible exact hI.1.1)
    | (refine H3 ?_
       have htr:=eU hchk hge hlt
       try simp only [decide_eq_true_eq,decide_eq_false_iff_not,I4] at *
       unfold uY
       try simp only [me] at *
       have hw:=cV htr
       clear hchk hI hside hruns htr
       try simp only [*,reduceIte,if_true,if_false,G1,and_true,true_and,and_false,false_and,and_self,not_true_eq_false,not_false_eq_true,ne_eq,F5,F6]
       try rw [F4 (by simp [cE,cG])]
       simp only [bR,dM,dO,lA,cK,cR,eI,cQ,cH,vJ,kN,fZ,gE,iE,fB,eP,kL,dD,dU,me,bG,set_set,G9,hD,fQ,eT,eS,eR,fP,eQ,hG,gR,fH,eF,eE,eD,fG,eC,gU,gS,hP hpc, *]
       done)
    | skip

set_option maxHeartbeats 8000000
theorem Vd {aW aV:Int} {aN aX:Int} {aG aO:Int} {aA:Bool} {bT bV bU:Int} {aB:List Slot} {aD aC:List Int} {aZ:Int} {aT:List Int} {bA:Int} {aU:List Int} {aL:Int} {aE:List Thread} {aK:List Entry} {id:Int} (h1:aB.length≤100000000) (h2:aD.length≤100000000) (h3:aC.length≤100000000) (h4:aT.length≤100000000) (h5:aU.length≤100000000) (h6:aE.length≤100000000) (h7:aK.length≤100000000) (hI:nJ (E5 (E4 aW aV aN aX aG aO aA) (E9 bT bV bU) aB aD aC (D8 aZ aT) (D8 bA aU) aL aE aK) id=true) (hpc:(aE.getD id.toNat default).pc=6):cX Tryz.prog 190 [.agg [.int .i64 aW,.int .i64 aV,.int .i64 aN,.int .i64 aX,.int .i64 aG,.int .i64 aO,.bool aA,.int .i64 bT,.int .i64 bV,.int .i64 bU,.slv 2 (aB.map cU),.slv 1 (aD.map aS),.slv 1 (aC.map aS),.int .i64 aZ,.slv 1 (aT.map aS),.int .i64 bA,.slv 1 (aU.map aS),.int .i64 aL,.slv 11 (aE.map bH),.slv 5 (aK.map cO)],.int .i64 id] (.agg (bR (qS (E5 (E4 aW aV aN aX aG aO aA) (E9 bT bV bU) aB aD aC (D8 aZ aT) (D8 bA aU) aL aE aK) id)),[],[]):=by
  have hI':=hI
  simp only [nJ,cN,E0,decide_eq_true_eq] at hI'
  obtain ⟨⟨⟨⟨hchk,hge⟩,hlt⟩,hruns⟩,hside⟩:=hI'
  have hid:id.toNat<aE.length:=by omega
  have hne:aE≠[]:=by intro h; subst h; simp at hlt; omega
  refine aI bP xL (by simp [lN]) fun hw _=>?_
  clear hw
  repeat' with_reducible first|refine aQ (fun h=>?_) (fun h=>?_)|refine bB (fun h=>?_) (fun h=>?_)|refine aF (fun h=>?_) (fun h=>?_)|refine aH (fun h=>?_) (fun h=>?_)|refine FN ?_ ?_ ?_ ?_ rfl ?_|refine aR ?_ ?_|refine bC ?_ ?_|refine bM ?_ ?_|refine I2 bP TP PV ?_ ?_ ?_ ?_ ?_|refine I2 bP yX sA ?_ ?_ ?_ ?_ ?_|refine Hg [(209,209),(241,210)] ?_ ?_ ?_|refine IA ?_ ?_ ?_|refine L1 ?_ ?_|refine L2 ?_ ?_|refine L3 ?_ ?_ ?_ ?_|refine L4 ?_ ?_|refine L5 ?_ ?_ ?_ ?_ ?_|refine L6 ?_ ?_ ?_ ?_ ?_|refine N1 (gG ?_ ?_ ?_ ?_ ?_ ?_ ?_ hne) ?_ ?_|refine P0 (lZ ?_ ?_ ?_ ?_ ?_ ?_ ?_) ?_ ?_ ?_|refine I2 bP yT rW ?_ ?_ ?_ ?_ ?_|refine IA ?_ ?_ ?_|refine I3 bP yU rX ?_ ?_ ?_ ?_ ?_|refine I3 bP yY sB ?_ ?_ ?_ ?_ ?_|refine dE ?_ ?_ ?_ ?_|refine GN 41 ?_ ?_ ?_|refine ACN.of (qJ ?_ ?_ ?_ ?_ ?_ ?_ ?_ ?_) ?_|refine P0 (xX ?_) ?_ ?_ ?_|refine ACV.of (xX ?_) ?_ ?_ ?_|refine ACK.of (xX ?_) ?_ ?_|simp -implicitDefEqProofs only [lN,qA,bN,bD,bO,aJ,aP,qU,D2,D5,D6,D4,D1,D7,reduceIte,reduceCtorEq,qI,E3,E2,CX,uS,cL,E1,bH,fM,eX,fJ,AV.isInt,dV,P3,Q6,J5,J9,dM,dO,iA,hpc,hI,I5,L7,cE,cG,J3,H8,F5,F6,H2,J4,K0,set_set,bG,uP,uT,uO, *]
  all_goals first
    | omega
    | (constructor <;> omega)
    | exact G4 _
    | exact Nat.le_trans oT h4
    | (simp only [nJ,E0] at hI; with_reducible exact hI.1.1)
    | (refine H3 ?_
       have htr:=eU hchk hge hlt
       try simp only [decide_eq_true_eq,decide_eq_false_iff_not,I4] at *
       unfold qS
       try simp only [me] at *
       have hw:=cV htr
       clear hchk hI hside hruns htr
       try simp only [*,reduceIte,if_true,if_false,G1,and_true,true_and,and_false,false_and,and_self,not_true_eq_false,not_false_eq_true,ne_eq,F5,F6]
       try rw [F4 (by simp [cE,cG])]
       simp only [bR,dM,dO,lA,cK,cR,eI,cQ,cH,vJ,kN,fZ,gE,iE,fB,eP,kL,dD,dU,me,bG,set_set,G9,hD,fQ,eT,eS,eR,fP,eQ,hG,gR,fH,eF,eE,eD,fG,eC,gU,gS,hP hpc, *]
       done)
    | skip

set_option maxHeartbeats 8000000
theorem Vg {aW aV:Int} {aN aX:Int} {aG aO:Int} {aA:Bool} {bT bV bU:Int} {aB:List Slot} {aD aC:List Int} {aZ:Int} {aT:List Int} {bA:Int} {aU:List Int} {aL:Int} {aE:List Thread} {aK:List Entry} {id:Int} (h1:aB.length≤100000000) (h2:aD.length≤100000000) (h3:aC.length≤100000000) (h4:aT.length≤100000000) (h5:aU.length≤100000000) (h6:aE.length≤100000000) (h7:aK.length≤100000000) (hI:nJ (E5 (E4 aW aV aN aX aG aO aA) (E9 bT bV bU) aB aD aC (D8 aZ aT) (D8 bA aU) aL aE aK) id=true) (hpc:(aE.getD id.toNat default).pc=8):cX Tryz.prog 190 [.agg [.int .i64 aW,.int .i64 aV,.int .i64 aN,.int .i64 aX,.int .i64 aG,.int .i64 aO,.bool aA,.int .i64 bT,.int .i64 bV,.int .i64 bU,.slv 2 (aB.map cU),.slv 1 (aD.map aS),.slv 1 (aC.map aS),.int .i64 aZ,.slv 1 (aT.map aS),.int .i64 bA,.slv 1 (aU.map aS),.int .i64 aL,.slv 11 (aE.map bH),.slv 5 (aK.map cO)],.int .i64 id] (.agg (bR (qQ (E5 (E4 aW aV aN aX aG aO aA) (E9 bT bV bU) aB aD aC (D8 aZ aT) (D8 bA aU) aL aE aK) id)),[],[]):=by
  have hI':=hI
  simp only [nJ,cN,E0,decide_eq_true_eq] at hI'
  obtain ⟨⟨⟨⟨hchk,hge⟩,hlt⟩,hruns⟩,hside⟩:=hI'
  have hid:id.toNat<aE.length:=by omega
  have hne:aE≠[]:=by intro h; subst h; simp at hlt; omega
  refine aI bP xL (by simp [lN]) fun hw _=>?_
  clear hw
  repeat' with_reducible first|refine aQ (fun h=>?_) (fun h=>?_)|refine bB (fun h=>?_) (fun h=>?_)|refine aF (fun h=>?_) (fun h=>?_)|refine aH (fun h=>?_) (fun h=>?_)|refine FN ?_ ?_ ?_ ?_ rfl ?_|refine aR ?_ ?_|refine bC ?_ ?_|refine bM ?_ ?_|refine I2 bP TR PX ?_ ?_ ?_ ?_ ?_|refine I2 bP yX sA ?_ ?_ ?_ ?_ ?_|refine Hg [(209,209),(241,210)] ?_ ?_ ?_|refine IA ?_ ?_ ?_|refine L1 ?_ ?_|refine L2 ?_ ?_|refine L3 ?_ ?_ ?_ ?_|refine L4 ?_ ?_|refine L5 ?_ ?_ ?_ ?_ ?_|refine L6 ?_ ?_ ?_ ?_ ?_|refine N1 (gG ?_ ?_ ?_ ?_ ?_ ?_ ?_ hne) ?_ ?_|refine P0 (lZ ?_ ?_ ?_ ?_ ?_ ?_ ?_) ?_ ?_ ?_|refine I2 bP yT rW ?_ ?_ ?_ ?_ ?_|refine IA ?_ ?_ ?_|refine I3 bP yU rX ?_ ?_ ?_ ?_ ?_|refine I3 bP yY sB ?_ ?_ ?_ ?_ ?_|refine dE ?_ ?_ ?_ ?_|refine P0 (xY ?_) ?_ ?_ ?_|refine ACV.of (xY ?_) ?_ ?_ ?_|refine ACK.of (xY ?_) ?_ ?_|refine P0 (xZ) ?_ ?_ ?_|refine ACV.of (xZ) ?_ ?_ ?_|refine ACK.of (xZ) ?_ ?_|simp -implicitDefEqProofs only [lN,qA,bN,bD,bO,aJ,aP,qU,D2,D5,D6,D4,D1,D7,reduceIte,reduceCtorEq,qI,E3,E2,CZ,uS,cL,E1,bH,fM,eX,fJ,AV.isInt,dV,P3,Q6,J5,J9,dM,dO,iA,hpc,hI,I5,L7,cE,cG,J3,H8,F5,F6,H2,J4,K0,set_set,bG,uP,uT,uO, *]
  all_goals first
    | omega
    | (constructor <;> omega)
    | exact G4 _
    | (simp only [nJ,E0] at hI; with_reducible exact hI.1.1)
    | (refine H3 ?_
       have htr:=eU hchk hge hlt
       try simp only [decide_eq_true_eq,decide_eq_false_iff_not,I4] at *
       unfold qQ
       try simp only [me] at *
       have hw:=cV htr
       clear hchk hI hside hruns htr
       try simp only [*,reduceIte,if_true,if_false,G1,and_true,true_and,and_false,false_and,and_self,not_true_eq_false,not_false_eq_true,ne_eq,F5,F6]
       try rw [F4 (by simp [cE,cG])]
       simp only [bR,dM,dO,lA,cK,cR,eI,cQ,cH,vJ,kN,fZ,gE,iE,fB,eP,kL,dD,dU,me,bG,set_set,G9,hD,fQ,eT,eS,eR,fP,eQ,hG,gR,fH,eF,eE,eD,fG,eC,gU,gS,hP hpc, *]
       done)
    | skip

end Go.Sak
