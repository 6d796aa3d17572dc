/- Part T26 of the proofs about the program: K24, K27. Conditions: none. -/
import Derived.Test.YtahdilehajdhgaaGreatT22
open Bool renaming and_eq_true→E0,false_eq_true→G1,not_eq_true→I4
open Go.Sak.Config renaming mk→E4
open Go.Sak.Event renaming mk→D8
open Int renaming le_refl→K0,reduceEq→F5,reduceLE→J3,reduceLT→H8,reduceNe→F6,reduceToNat→I5,toNat_natCast→E1,toNat_one→J4,toNat_zero→H2
open List renaming length_set→G9,reduceReplicate→D2,take_of_length_le→F4
open Nat renaming mul_one→L7,reduceAdd→D5,reduceBEq→E2,reduceEqDiff→D1,reduceLT→E3,reduceLeDiff→D4,reduceMul→D7,reduceSub→D6
namespace Go.Sak
open Go Go.RowKit Go.Proofs
set_option linter.unusedVariables false
set_option linter.unusedSimpArgs false
set_option maxRecDepth 10000
set_option maxHeartbeats 8000000
theorem wM {c:Config} {w0 w:Word} {sl:List Slot} {a b:List Int} {f e:Event} {n:Int} {th:List Thread} {lg:List Entry} {id:Int} (h:nQ ⟨c,w0,sl,a,b,f,e,n,th,lg⟩ id=true) (hw:cT w0 sl.length=true→cT w sl.length=true):cN ⟨c,⟨w.h,w.t,w.m⟩,sl,a,b,f,e,n,th,lg⟩ id=true:=uX (s:=⟨c,w0,sl,a,b,f,e,n,th,lg⟩) (Oq h) hw
theorem Uq {aW aV:Int} {aN aX:Int} {aG aO:Int} {aA:Bool} {bT bV bU:Int} {aB:List Slot} {aD aC:List Int} {aZ:Int} {aT:List Int} {bA:Int} {aU:List Int} {aL:Int} {aE:List Thread} {aK:List Entry} {id:Int} (h1:aB.length≤100000000) (h2:aD.length≤100000000) (h3:aC.length≤100000000) (h4:aT.length≤100000000) (h5:aU.length≤100000000) (h6:aE.length≤100000000) (h7:aK.length≤100000000) (hI:nQ (State.mk (E4 aW aV aN aX aG aO aA) (Word.mk bT bV bU) aB aD aC (D8 aZ aT) (D8 bA aU) aL aE aK) id=true) (hpc:(aE.getD id.toNat default).pc=4):cX Tryz.prog 189 [.agg [.int .i64 aW,.int .i64 aV,.int .i64 aN,.int .i64 aX,.int .i64 aG,.int .i64 aO,.bool aA,.int .i64 bT,.int .i64 bV,.int .i64 bU,.slv 2 (aB.map cU),.slv 1 (aD.map aS),.slv 1 (aC.map aS),.int .i64 aZ,.slv 1 (aT.map aS),.int .i64 bA,.slv 1 (aU.map aS),.int .i64 aL,.slv 11 (aE.map bH),.slv 5 (aK.map cO)],.int .i64 id] (.agg (bR (rD (State.mk (E4 aW aV aN aX aG aO aA) (Word.mk bT bV bU) aB aD aC (D8 aZ aT) (D8 bA aU) aL aE aK) id)),[],[]):=by
  have hI':=hI
  simp only [nQ,cN,E0,decide_eq_true_eq] at hI'
  obtain ⟨⟨⟨⟨hchk,hge⟩,hlt⟩,hruns⟩,hside⟩:=hI'
  have hid:id.toNat<aE.length:=by omega
  have hne:aE≠[]:=by intro h; subst h; simp at hlt; omega
  refine aI bP xK (by simp [lM]) fun hw _=>?_
  clear hw
  repeat' with_reducible first|refine aQ (fun h=>?_) (fun h=>?_)|refine bB (fun h=>?_) (fun h=>?_)|refine aF (fun h=>?_) (fun h=>?_)|refine aH (fun h=>?_) (fun h=>?_)|refine FN ?_ ?_ ?_ ?_ rfl ?_|refine aR ?_ ?_|refine bC ?_ ?_|refine bM ?_ ?_|refine I2 bP SK PD ?_ ?_ ?_ ?_ ?_|refine I2 bP yV rY ?_ ?_ ?_ ?_ ?_|refine I2 bP HK Yd ?_ ?_ ?_ ?_ ?_|refine I2 bP AE Ob ?_ ?_ ?_ ?_ ?_|refine IA ?_ ?_ ?_|refine L1 ?_ ?_|refine L2 ?_ ?_|refine L3 ?_ ?_ ?_ ?_|refine L4 ?_ ?_|refine L5 ?_ ?_ ?_ ?_ ?_|refine L6 ?_ ?_ ?_ ?_ ?_|refine N1 (gG ?_ ?_ ?_ ?_ ?_ ?_ ?_ hne) ?_ ?_|refine P0 (lY ?_ ?_ ?_ ?_ ?_ ?_ ?_) ?_ ?_ ?_|refine I3 bP yS rV ?_ ?_ ?_ ?_ ?_|refine I3 bP yW rZ ?_ ?_ ?_ ?_ ?_|refine dE ?_ ?_ ?_ ?_|refine GN 279 ?_ ?_ ?_|refine ACN.of (oI ?_ ?_ ?_ ?_ ?_ ?_ ?_ ?_) ?_|refine P0 (xR) ?_ ?_ ?_|refine ACV.of (xR) ?_ ?_ ?_|refine ACK.of (xR) ?_ ?_|simp -implicitDefEqProofs only [lM,qA,bN,bD,bO,aJ,aP,qU,D2,D5,D6,D4,D1,D7,reduceIte,reduceCtorEq,qI,E3,E2,BQ,uQ,Qg,Km,cL,E1,bH,dM,dO,iA,hpc,hI,I5,L7,cE,cG,rM,J3,H8,H2,J4,K0,set_set,bG,uN,uR, *]
  all_goals first
    | omega
    | (constructor <;> omega)
    | exact Wk.refl _
    | (with_reducible refine wM hI ?_
       exact fun h=>zZ h)
    | (simp only [nQ,E0] at hI; with_reducible exact hI.1.1)
    | (refine Wk.of_eq ?_
       have htr:=eU hchk hge hlt
       try simp only [decide_eq_true_eq,decide_eq_false_iff_not,I4] at *
       unfold rD
       try simp only [me] at *
       have hw:=cV htr
       clear hchk hI hside hruns htr
       try simp only [*,reduceIte,if_true,if_false,G1,and_true,true_and,and_false,false_and,and_self,not_true_eq_false,not_false_eq_true,ne_eq,F5,F6]
       try rw [F4 (by simp [cE,cG])]
       simp only [bR,dM,dO,lA,cK,cR,eJ,cQ,cH,vJ,kN,fZ,gE,iE,fB,eP,dD,dU,me,bG,set_set,G9,hD,fQ,eT,eS,eR,fP,eQ,hG,gR,fH,eF,eE,eD,fG,eC,gU,gS,hP hpc, *]
       done)
    | skip

set_option maxHeartbeats 8000000
theorem Uv {aW aV:Int} {aN aX:Int} {aG aO:Int} {aA:Bool} {bT bV bU:Int} {aB:List Slot} {aD aC:List Int} {aZ:Int} {aT:List Int} {bA:Int} {aU:List Int} {aL:Int} {aE:List Thread} {aK:List Entry} {id:Int} (h1:aB.length≤100000000) (h2:aD.length≤100000000) (h3:aC.length≤100000000) (h4:aT.length≤100000000) (h5:aU.length≤100000000) (h6:aE.length≤100000000) (h7:aK.length≤100000000) (hI:nQ (State.mk (E4 aW aV aN aX aG aO aA) (Word.mk bT bV bU) aB aD aC (D8 aZ aT) (D8 bA aU) aL aE aK) id=true) (hpc:(aE.getD id.toNat default).pc=9):cX Tryz.prog 189 [.agg [.int .i64 aW,.int .i64 aV,.int .i64 aN,.int .i64 aX,.int .i64 aG,.int .i64 aO,.bool aA,.int .i64 bT,.int .i64 bV,.int .i64 bU,.slv 2 (aB.map cU),.slv 1 (aD.map aS),.slv 1 (aC.map aS),.int .i64 aZ,.slv 1 (aT.map aS),.int .i64 bA,.slv 1 (aU.map aS),.int .i64 aL,.slv 11 (aE.map bH),.slv 5 (aK.map cO)],.int .i64 id] (.agg (bR (Ct (State.mk (E4 aW aV aN aX aG aO aA) (Word.mk bT bV bU) aB aD aC (D8 aZ aT) (D8 bA aU) aL aE aK) id)),[],[]):=by
  have hI':=hI
  simp only [nQ,cN,E0,decide_eq_true_eq] at hI'
  obtain ⟨⟨⟨⟨hchk,hge⟩,hlt⟩,hruns⟩,hside⟩:=hI'
  have hid:id.toNat<aE.length:=by omega
  have hne:aE≠[]:=by intro h; subst h; simp at hlt; omega
  refine aI bP xK (by simp [lM]) fun hw _=>?_
  clear hw
  repeat' with_reducible first|refine aQ (fun h=>?_) (fun h=>?_)|refine bB (fun h=>?_) (fun h=>?_)|refine aF (fun h=>?_) (fun h=>?_)|refine aH (fun h=>?_) (fun h=>?_)|refine FN ?_ ?_ ?_ ?_ rfl ?_|refine aR ?_ ?_|refine bC ?_ ?_|refine bM ?_ ?_|refine I2 bP SP PI ?_ ?_ ?_ ?_ ?_|refine I2 bP yV rY ?_ ?_ ?_ ?_ ?_|refine IA ?_ ?_ ?_|refine L1 ?_ ?_|refine L2 ?_ ?_|refine L3 ?_ ?_ ?_ ?_|refine L4 ?_ ?_|refine L5 ?_ ?_ ?_ ?_ ?_|refine L6 ?_ ?_ ?_ ?_ ?_|refine N1 (gG ?_ ?_ ?_ ?_ ?_ ?_ ?_ hne) ?_ ?_|refine P0 (lY ?_ ?_ ?_ ?_ ?_ ?_ ?_) ?_ ?_ ?_|refine I3 bP yS rV ?_ ?_ ?_ ?_ ?_|refine I3 bP yW rZ ?_ ?_ ?_ ?_ ?_|refine dE ?_ ?_ ?_ ?_|refine P0 (nT ?_) ?_ ?_ ?_|refine ACV.of (nT ?_) ?_ ?_ ?_|refine ACK.of (nT ?_) ?_ ?_|refine P0 (kO) ?_ ?_ ?_|refine ACV.of (kO) ?_ ?_ ?_|refine ACK.of (kO) ?_ ?_|simp -implicitDefEqProofs only [lM,qA,bN,bD,bO,aJ,aP,qU,D2,D5,D6,D4,D1,D7,reduceIte,reduceCtorEq,qI,E3,E2,BV,uQ,cL,E1,bH,dM,dO,iA,hpc,hI,I5,L7,cE,cG,rM,J3,H8,H2,J4,K0,set_set,bG,uN,uR, *]
  all_goals first
    | omega
    | (constructor <;> omega)
    | exact Wk.refl _
    | (simp only [nQ,E0] at hI; with_reducible exact hI.1.1)
    | (refine Wk.of_eq ?_
       have htr:=eU hchk hge hlt
       try simp only [decide_eq_true_eq,decide_eq_false_iff_not,I4] at *
       unfold Ct
       try simp only [me] at *
       have hw:=cV htr
       clear hchk hI hside hruns htr
       try simp only [*,reduceIte,if_true,if_false,G1,and_true,true_and,and_false,false_and,and_self,not_true_eq_false,not_false_eq_true,ne_eq,F5,F6]
       try rw [F4 (by simp [cE,cG])]
       simp only [bR,dM,dO,lA,cK,cR,eJ,cQ,cH,vJ,kN,fZ,gE,iE,fB,eP,dD,dU,me,bG,set_set,G9,hD,fQ,eT,eS,eR,fP,eQ,hG,gR,fH,eF,eE,eD,fG,eC,gU,gS,hP hpc, *]
       done)
    | skip

theorem Qx {aW aV:Int} {aN aX:Int} {aG aO:Int} {aA:Bool} {bT bV bU:Int} {aB:List Slot} {aD aC:List Int} {aZ:Int} {aT:List Int} {bA:Int} {aU:List Int} {aL:Int} {aE:List Thread} {aK:List Entry} {id:Int} (h1:aB.length≤100000000) (h2:aD.length≤100000000) (h3:aC.length≤100000000) (h4:aT.length≤100000000) (h5:aU.length≤100000000) (h6:aE.length≤100000000) (h7:aK.length≤100000000) (hI:nQ (State.mk (E4 aW aV aN aX aG aO aA) (Word.mk bT bV bU) aB aD aC (D8 aZ aT) (D8 bA aU) aL aE aK) id=true) (hpc:(aE.getD id.toNat default).pc=11):cX Tryz.prog 189 [.agg [.int .i64 aW,.int .i64 aV,.int .i64 aN,.int .i64 aX,.int .i64 aG,.int .i64 aO,.bool aA,.int .i64 bT,.int .i64 bV,.int .i64 bU,.slv 2 (aB.map cU),.slv 1 (aD.map aS),.slv 1 (aC.map aS),.int .i64 aZ,.slv 1 (aT.map aS),.int .i64 bA,.slv 1 (aU.map aS),.int .i64 aL,.slv 11 (aE.map bH),.slv 5 (aK.map cO)],.int .i64 id] (.agg (bR (nW (State.mk (E4 aW aV aN aX aG aO aA) (Word.mk bT bV bU) aB aD aC (D8 aZ aT) (D8 bA aU) aL aE aK) id)),[],[]):=by
  have hI':=hI
  simp only [nQ,cN,E0,decide_eq_true_eq] at hI'
  obtain ⟨⟨⟨⟨hchk,hge⟩,hlt⟩,hruns⟩,hside⟩:=hI'
  have hid:id.toNat<aE.length:=by omega
  have hne:aE≠[]:=by intro h; subst h; simp at hlt; omega
  refine aI bP xK (by simp [lM]) fun hw _=>?_
  clear hw
  repeat' with_reducible first|refine aQ (fun h=>?_) (fun h=>?_)|refine bB (fun h=>?_) (fun h=>?_)|refine aF (fun h=>?_) (fun h=>?_)|refine aH (fun h=>?_) (fun h=>?_)|refine FN ?_ ?_ ?_ ?_ rfl ?_|refine aR ?_ ?_|refine bC ?_ ?_|refine bM ?_ ?_|refine I2 bP SR PK ?_ ?_ ?_ ?_ ?_|refine I2 bP yV rY ?_ ?_ ?_ ?_ ?_|refine IA ?_ ?_ ?_|refine L1 ?_ ?_|refine L2 ?_ ?_|refine L3 ?_ ?_ ?_ ?_|refine L4 ?_ ?_|refine L5 ?_ ?_ ?_ ?_ ?_|refine L6 ?_ ?_ ?_ ?_ ?_|refine N1 (gG ?_ ?_ ?_ ?_ ?_ ?_ ?_ hne) ?_ ?_|refine P0 (lY ?_ ?_ ?_ ?_ ?_ ?_ ?_) ?_ ?_ ?_|refine I3 bP yS rV ?_ ?_ ?_ ?_ ?_|refine I3 bP yW rZ ?_ ?_ ?_ ?_ ?_|refine dE ?_ ?_ ?_ ?_|refine P0 (yA ?_) ?_ ?_ ?_|refine ACV.of (yA ?_) ?_ ?_ ?_|refine ACK.of (yA ?_) ?_ ?_|simp -implicitDefEqProofs only [lM,qA,bN,bD,bO,aJ,aP,qU,D2,D5,D6,D4,D1,D7,reduceIte,reduceCtorEq,qI,E3,E2,BX,uQ,cL,E1,bH,dM,dO,iA,hpc,hI,I5,L7,cE,cG,rM,J3,H8,H2,J4,K0,set_set,bG,uN,uR, *]
  all_goals first
    | omega
    | (constructor <;> omega)
    | exact Wk.refl _
    | (simp only [nQ,E0] at hI; with_reducible exact hI.1.1)
    | (refine Wk.of_eq ?_
       have htr:=eU hchk hge hlt
       try simp only [decide_eq_true_eq,decide_eq_false_iff_not,I4] at *
       unfold nW
       try simp only [me] at *
       have hw:=cV htr
       clear hchk hI hside hruns htr
       try simp only [*,reduceIte,if_true,if_false,G1,and_true,true_and,and_false,false_and,and_self,not_true_eq_false,not_false_eq_true,ne_eq,F5,F6]
       try rw [F4 (by simp [cE,cG])]
       simp only [bR,dM,dO,lA,cK,cR,eJ,cQ,cH,vJ,kN,fZ,gE,iE,fB,eP,dD,dU,me,bG,set_set,G9,hD,fQ,eT,eS,eR,fP,eQ,hG,gR,fH,eF,eE,eD,fG,eC,gU,gS,hP hpc, *]
       done)
    | skip

end Go.Sak
