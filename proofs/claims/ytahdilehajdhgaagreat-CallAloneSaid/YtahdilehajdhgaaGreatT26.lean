/- Part T26 of the proofs about the program: K24, K27. Conditions: none. -/
import Derived.Test.YtahdilehajdhgaaGreatT22
open Bool renaming and_eq_true→D9,false_eq_true→G0,not_eq_true→I1
open Go.Sak.Config renaming mk→E3
open Go.Sak.Event renaming mk→D7
open Int renaming le_refl→J9,reduceEq→F4,reduceLE→J2,reduceLT→H7,reduceNe→F5,reduceToNat→I4,toNat_natCast→E0,toNat_one→J3,toNat_zero→H1
open List renaming length_set→G8,reduceReplicate→D1,take_of_length_le→F3
open Nat renaming mul_one→L0,reduceAdd→D4,reduceBEq→E1,reduceEqDiff→D0,reduceLT→E2,reduceLeDiff→D3,reduceMul→D6,reduceSub→D5
namespace Go.Sak
open Go Go.RowKit Go.Proofs
set_option linter.unusedVariables false
set_option linter.unusedSimpArgs false
set_option maxRecDepth 10000
set_option maxHeartbeats 8000000
theorem wL {c:Config} {w0 w:Word} {sl:List Slot} {a b:List Int} {f e:Event} {n:Int} {th:List Thread} {lg:List Entry} {id:Int} (h:nP ⟨c,w0,sl,a,b,f,e,n,th,lg⟩ id=true) (hw:cT w0 sl.length=true→cT w sl.length=true):cN ⟨c,⟨w.h,w.t,w.m⟩,sl,a,b,f,e,n,th,lg⟩ id=true:=uW (s:=⟨c,w0,sl,a,b,f,e,n,th,lg⟩) (Oo h) hw
theorem Up {aW aV:Int} {aN aX:Int} {aG aO:Int} {aA:Bool} {bT bV bU:Int} {aB:List Slot} {aD aC:List Int} {aZ:Int} {aT:List Int} {bA:Int} {aU:List Int} {aL:Int} {aE:List Thread} {aK:List Entry} {id:Int} (h1:aB.length≤100000000) (h2:aD.length≤100000000) (h3:aC.length≤100000000) (h4:aT.length≤100000000) (h5:aU.length≤100000000) (h6:aE.length≤100000000) (h7:aK.length≤100000000) (hI:nP (State.mk (E3 aW aV aN aX aG aO aA) (Word.mk bT bV bU) aB aD aC (D7 aZ aT) (D7 bA aU) aL aE aK) id=true) (hpc:(aE.getD id.toNat default).pc=4):cX Tryz.prog 189 [.agg [.int .i64 aW,.int .i64 aV,.int .i64 aN,.int .i64 aX,.int .i64 aG,.int .i64 aO,.bool aA,.int .i64 bT,.int .i64 bV,.int .i64 bU,.slv 2 (aB.map cU),.slv 1 (aD.map aS),.slv 1 (aC.map aS),.int .i64 aZ,.slv 1 (aT.map aS),.int .i64 bA,.slv 1 (aU.map aS),.int .i64 aL,.slv 11 (aE.map bH),.slv 5 (aK.map cO)],.int .i64 id] (.agg (bR (rC (State.mk (E3 aW aV aN aX aG aO aA) (Word.mk bT bV bU) aB aD aC (D7 aZ aT) (D7 bA aU) aL aE aK) id)),[],[]):=by
  have hI':=hI
  simp only [nP,cN,D9,decide_eq_true_eq] at hI'
  obtain ⟨⟨⟨⟨hchk,hge⟩,hlt⟩,hruns⟩,hside⟩:=hI'
  have hid:id.toNat<aE.length:=by omega
  have hne:aE≠[]:=by intro h; subst h; simp at hlt; omega
  refine aI bP xJ (by simp [lL]) fun hw _=>?_
  clear hw
  repeat' with_reducible first|refine aQ (fun h=>?_) (fun h=>?_)|refine bB (fun h=>?_) (fun h=>?_)|refine aF (fun h=>?_) (fun h=>?_)|refine aH (fun h=>?_) (fun h=>?_)|refine FN ?_ ?_ ?_ ?_ rfl ?_|refine aR ?_ ?_|refine bC ?_ ?_|refine bM ?_ ?_|refine I2 bP SJ PC ?_ ?_ ?_ ?_ ?_|refine I2 bP yU rX ?_ ?_ ?_ ?_ ?_|refine I2 bP HJ Yc ?_ ?_ ?_ ?_ ?_|refine I2 bP AD Oa ?_ ?_ ?_ ?_ ?_|refine IA ?_ ?_ ?_|refine L1 ?_ ?_|refine L2 ?_ ?_|refine L3 ?_ ?_ ?_ ?_|refine L4 ?_ ?_|refine L5 ?_ ?_ ?_ ?_ ?_|refine L6 ?_ ?_ ?_ ?_ ?_|refine N1 (gF ?_ ?_ ?_ ?_ ?_ ?_ ?_ hne) ?_ ?_|refine P0 (lX ?_ ?_ ?_ ?_ ?_ ?_ ?_) ?_ ?_ ?_|refine I3 bP yR rU ?_ ?_ ?_ ?_ ?_|refine I3 bP yV rY ?_ ?_ ?_ ?_ ?_|refine dE ?_ ?_ ?_ ?_|refine GN 279 ?_ ?_ ?_|refine ACN.of (oH ?_ ?_ ?_ ?_ ?_ ?_ ?_ ?_) ?_|refine P0 (xQ) ?_ ?_ ?_|refine ACV.of (xQ) ?_ ?_ ?_|refine ACK.of (xQ) ?_ ?_|simp -implicitDefEqProofs only [lL,qA,bN,bD,bO,aJ,aP,qU,D1,D4,D5,D3,D0,D6,reduceIte,reduceCtorEq,qI,E2,E1,BP,uP,Qf,Kl,cL,E0,bH,dM,dO,hX,hpc,hI,I4,L0,cE,cG,rL,J2,H7,H1,J3,J9,set_set,bG,uM,uQ, *]
  all_goals first
    | omega
    | (constructor <;> omega)
    | exact Wk.refl _
    | (with_reducible refine wL hI ?_
       exact fun h=>zY h)
    | (simp only [nP,D9] at hI; with_reducible exact hI.1.1)
    | (refine Wk.of_eq ?_
       have htr:=eU hchk hge hlt
       try simp only [decide_eq_true_eq,decide_eq_false_iff_not,I1] at *
       unfold rC
       try simp only [me] at *
       have hw:=cV htr
       clear hchk hI hside hruns htr
       try simp only [*,reduceIte,if_true,if_false,G0,and_true,true_and,and_false,false_and,and_self,not_true_eq_false,not_false_eq_true,ne_eq,F4,F5]
       try rw [F3 (by simp [cE,cG])]
       simp only [bR,dM,dO,kZ,cK,cR,eJ,cQ,cH,vI,kM,fZ,gD,iD,fB,eP,dD,dU,me,bG,set_set,G8,gZ,fQ,eT,eS,eR,fP,eQ,hD,gQ,fH,eF,eE,eD,fG,eC,gS,gR,hG hpc, *]
       done)
    | skip

set_option maxHeartbeats 8000000
theorem Uu {aW aV:Int} {aN aX:Int} {aG aO:Int} {aA:Bool} {bT bV bU:Int} {aB:List Slot} {aD aC:List Int} {aZ:Int} {aT:List Int} {bA:Int} {aU:List Int} {aL:Int} {aE:List Thread} {aK:List Entry} {id:Int} (h1:aB.length≤100000000) (h2:aD.length≤100000000) (h3:aC.length≤100000000) (h4:aT.length≤100000000) (h5:aU.length≤100000000) (h6:aE.length≤100000000) (h7:aK.length≤100000000) (hI:nP (State.mk (E3 aW aV aN aX aG aO aA) (Word.mk bT bV bU) aB aD aC (D7 aZ aT) (D7 bA aU) aL aE aK) id=true) (hpc:(aE.getD id.toNat default).pc=9):cX Tryz.prog 189 [.agg [.int .i64 aW,.int .i64 aV,.int .i64 aN,.int .i64 aX,.int .i64 aG,.int .i64 aO,.bool aA,.int .i64 bT,.int .i64 bV,.int .i64 bU,.slv 2 (aB.map cU),.slv 1 (aD.map aS),.slv 1 (aC.map aS),.int .i64 aZ,.slv 1 (aT.map aS),.int .i64 bA,.slv 1 (aU.map aS),.int .i64 aL,.slv 11 (aE.map bH),.slv 5 (aK.map cO)],.int .i64 id] (.agg (bR (Cs (State.mk (E3 aW aV aN aX aG aO aA) (Word.mk bT bV bU) aB aD aC (D7 aZ aT) (D7 bA aU) aL aE aK) id)),[],[]):=by
  have hI':=hI
  simp only [nP,cN,D9,decide_eq_true_eq] at hI'
  obtain ⟨⟨⟨⟨hchk,hge⟩,hlt⟩,hruns⟩,hside⟩:=hI'
  have hid:id.toNat<aE.length:=by omega
  have hne:aE≠[]:=by intro h; subst h; simp at hlt; omega
  refine aI bP xJ (by simp [lL]) fun hw _=>?_
  clear hw
  repeat' with_reducible first|refine aQ (fun h=>?_) (fun h=>?_)|refine bB (fun h=>?_) (fun h=>?_)|refine aF (fun h=>?_) (fun h=>?_)|refine aH (fun h=>?_) (fun h=>?_)|refine FN ?_ ?_ ?_ ?_ rfl ?_|refine aR ?_ ?_|refine bC ?_ ?_|refine bM ?_ ?_|refine I2 bP SO PH ?_ ?_ ?_ ?_ ?_|refine I2 bP yU rX ?_ ?_ ?_ ?_ ?_|refine IA ?_ ?_ ?_|refine L1 ?_ ?_|refine L2 ?_ ?_|refine L3 ?_ ?_ ?_ ?_|refine L4 ?_ ?_|refine L5 ?_ ?_ ?_ ?_ ?_|refine L6 ?_ ?_ ?_ ?_ ?_|refine N1 (gF ?_ ?_ ?_ ?_ ?_ ?_ ?_ hne) ?_ ?_|refine P0 (lX ?_ ?_ ?_ ?_ ?_ ?_ ?_) ?_ ?_ ?_|refine I3 bP yR rU ?_ ?_ ?_ ?_ ?_|refine I3 bP yV rY ?_ ?_ ?_ ?_ ?_|refine dE ?_ ?_ ?_ ?_|refine P0 (nS ?_) ?_ ?_ ?_|refine ACV.of (nS ?_) ?_ ?_ ?_|refine ACK.of (nS ?_) ?_ ?_|refine P0 (kN) ?_ ?_ ?_|refine ACV.of (kN) ?_ ?_ ?_|refine ACK.of (kN) ?_ ?_|simp -implicitDefEqProofs only [lL,qA,bN,bD,bO,aJ,aP,qU,D1,D4,D5,D3,D0,D6,reduceIte,reduceCtorEq,qI,E2,E1,BU,uP,cL,E0,bH,dM,dO,hX,hpc,hI,I4,L0,cE,cG,rL,J2,H7,H1,J3,J9,set_set,bG,uM,uQ, *]
  all_goals first
    | omega
    | (constructor <;> omega)
    | exact Wk.refl _
    | (simp only [nP,D9] at hI; with_reducible exact hI.1.1)
    | (refine Wk.of_eq ?_
       have htr:=eU hchk hge hlt
       try simp only [decide_eq_true_eq,decide_eq_false_iff_not,I1] at *
       unfold Cs
       try simp only [me] at *
       have hw:=cV htr
       clear hchk hI hside hruns htr
       try simp only [*,reduceIte,if_true,if_false,G0,and_true,true_and,and_false,false_and,and_self,not_true_eq_false,not_false_eq_true,ne_eq,F4,F5]
       try rw [F3 (by simp [cE,cG])]
       simp only [bR,dM,dO,kZ,cK,cR,eJ,cQ,cH,vI,kM,fZ,gD,iD,fB,eP,dD,dU,me,bG,set_set,G8,gZ,fQ,eT,eS,eR,fP,eQ,hD,gQ,fH,eF,eE,eD,fG,eC,gS,gR,hG hpc, *]
       done)
    | skip

theorem Qw {aW aV:Int} {aN aX:Int} {aG aO:Int} {aA:Bool} {bT bV bU:Int} {aB:List Slot} {aD aC:List Int} {aZ:Int} {aT:List Int} {bA:Int} {aU:List Int} {aL:Int} {aE:List Thread} {aK:List Entry} {id:Int} (h1:aB.length≤100000000) (h2:aD.length≤100000000) (h3:aC.length≤100000000) (h4:aT.length≤100000000) (h5:aU.length≤100000000) (h6:aE.length≤100000000) (h7:aK.length≤100000000) (hI:nP (State.mk (E3 aW aV aN aX aG aO aA) (Word.mk bT bV bU) aB aD aC (D7 aZ aT) (D7 bA aU) aL aE aK) id=true) (hpc:(aE.getD id.toNat default).pc=11):cX Tryz.prog 189 [.agg [.int .i64 aW,.int .i64 aV,.int .i64 aN,.int .i64 aX,.int .i64 aG,.int .i64 aO,.bool aA,.int .i64 bT,.int .i64 bV,.int .i64 bU,.slv 2 (aB.map cU),.slv 1 (aD.map aS),.slv 1 (aC.map aS),.int .i64 aZ,.slv 1 (aT.map aS),.int .i64 bA,.slv 1 (aU.map aS),.int .i64 aL,.slv 11 (aE.map bH),.slv 5 (aK.map cO)],.int .i64 id] (.agg (bR (nV (State.mk (E3 aW aV aN aX aG aO aA) (Word.mk bT bV bU) aB aD aC (D7 aZ aT) (D7 bA aU) aL aE aK) id)),[],[]):=by
  have hI':=hI
  simp only [nP,cN,D9,decide_eq_true_eq] at hI'
  obtain ⟨⟨⟨⟨hchk,hge⟩,hlt⟩,hruns⟩,hside⟩:=hI'
  have hid:id.toNat<aE.length:=by omega
  have hne:aE≠[]:=by intro h; subst h; simp at hlt; omega
  refine aI bP xJ (by simp [lL]) fun hw _=>?_
  clear hw
  repeat' with_reducible first|refine aQ (fun h=>?_) (fun h=>?_)|refine bB (fun h=>?_) (fun h=>?_)|refine aF (fun h=>?_) (fun h=>?_)|refine aH (fun h=>?_) (fun h=>?_)|refine FN ?_ ?_ ?_ ?_ rfl ?_|refine aR ?_ ?_|refine bC ?_ ?_|refine bM ?_ ?_|refine I2 bP SQ PJ ?_ ?_ ?_ ?_ ?_|refine I2 bP yU rX ?_ ?_ ?_ ?_ ?_|refine IA ?_ ?_ ?_|refine L1 ?_ ?_|refine L2 ?_ ?_|refine L3 ?_ ?_ ?_ ?_|refine L4 ?_ ?_|refine L5 ?_ ?_ ?_ ?_ ?_|refine L6 ?_ ?_ ?_ ?_ ?_|refine N1 (gF ?_ ?_ ?_ ?_ ?_ ?_ ?_ hne) ?_ ?_|refine P0 (lX ?_ ?_ ?_ ?_ ?_ ?_ ?_) ?_ ?_ ?_|refine I3 bP yR rU ?_ ?_ ?_ ?_ ?_|refine I3 bP yV rY ?_ ?_ ?_ ?_ ?_|refine dE ?_ ?_ ?_ ?_|refine P0 (xZ ?_) ?_ ?_ ?_|refine ACV.of (xZ ?_) ?_ ?_ ?_|refine ACK.of (xZ ?_) ?_ ?_|simp -implicitDefEqProofs only [lL,qA,bN,bD,bO,aJ,aP,qU,D1,D4,D5,D3,D0,D6,reduceIte,reduceCtorEq,qI,E2,E1,BW,uP,cL,E0,bH,dM,dO,hX,hpc,hI,I4,L0,cE,cG,rL,J2,H7,H1,J3,J9,set_set,bG,uM,uQ, *]
  all_goals first
    | omega
    | (constructor <;> omega)
    | exact Wk.refl _
    | (simp only [nP,D9] at hI; with_reducible exact hI.1.1)
    | (refine Wk.of_eq ?_
       have htr:=eU hchk hge hlt
       try simp only [decide_eq_true_eq,decide_eq_false_iff_not,I1] at *
       unfold nV
       try simp only [me] at *
       have hw:=cV htr
       clear hchk hI hside hruns htr
       try simp only [*,reduceIte,if_true,if_false,G0,and_true,true_and,and_false,false_and,and_self,not_true_eq_false,not_false_eq_true,ne_eq,F4,F5]
       try rw [F3 (by simp [cE,cG])]
       simp only [bR,dM,dO,kZ,cK,cR,eJ,cQ,cH,vI,kM,fZ,gD,iD,fB,eP,dD,dU,me,bG,set_set,G8,gZ,fQ,eT,eS,eR,fP,eQ,hD,gQ,fH,eF,eE,eD,fG,eC,gS,gR,hG hpc, *]
       done)
    | skip

end Go.Sak
