/- Part T24 of the proofs about the program: K22. Conditions: none. -/
import Derived.Test.YtahdilehajdhgaaGreatT22
namespace Go.Sak
open Go Go.RowKit Go.Proofs
set_option linter.unusedVariables false
set_option linter.unusedSimpArgs false
set_option maxRecDepth 10000
set_option maxHeartbeats 8000000
theorem Un {aW aV:Int} {aN aX:Int} {aG aO:Int} {aA:Bool} {bT bV bU:Int} {aB:List Slot} {aD aC:List Int} {aZ:Int} {aT:List Int} {bA:Int} {aU:List Int} {aL:Int} {aE:List Thread} {aK:List Entry} {id:Int} (h1:aB.length≤100000000) (h2:aD.length≤100000000) (h3:aC.length≤100000000) (h4:aT.length≤100000000) (h5:aU.length≤100000000) (h6:aE.length≤100000000) (h7:aK.length≤100000000) (hI:nP (State.mk (Config.mk aW aV aN aX aG aO aA) (Word.mk bT bV bU) aB aD aC (Event.mk aZ aT) (Event.mk bA aU) aL aE aK) id=true) (hpc:(aE.getD id.toNat default).pc=2):cX Tryz.prog 189 [.agg [.int .i64 aW,.int .i64 aV,.int .i64 aN,.int .i64 aX,.int .i64 aG,.int .i64 aO,.bool aA,.int .i64 bT,.int .i64 bV,.int .i64 bU,.slv 2 (aB.map cU),.slv 1 (aD.map aS),.slv 1 (aC.map aS),.int .i64 aZ,.slv 1 (aT.map aS),.int .i64 bA,.slv 1 (aU.map aS),.int .i64 aL,.slv 11 (aE.map bH),.slv 5 (aK.map cO)],.int .i64 id] (.agg (bR (Ct (State.mk (Config.mk aW aV aN aX aG aO aA) (Word.mk bT bV bU) aB aD aC (Event.mk aZ aT) (Event.mk bA aU) aL aE aK) id)),[],[]):=by
  have hI':=hI
  simp only [nP,cN,Bool.and_eq_true,decide_eq_true_eq] at hI'
  obtain ⟨⟨⟨⟨hchk,hge⟩,hlt⟩,hruns⟩,hside⟩:=hI'
  have hid:id.toNat<aE.length:=by omega
  have hne:aE≠[]:=by intro h; subst h; simp at hlt; omega
  refine aI bP xJ (by simp [lL]) fun hw _=>?_
  clear hw
  repeat' with_reducible first|refine aQ (fun h=>?_) (fun h=>?_)|refine bB (fun h=>?_) (fun h=>?_)|refine aF (fun h=>?_) (fun h=>?_)|refine aH (fun h=>?_) (fun h=>?_)|refine FN ?_ ?_ ?_ ?_ rfl ?_|refine aR ?_ ?_|refine bC ?_ ?_|refine bM ?_ ?_|refine I2 bP SH PA ?_ ?_ ?_ ?_ ?_|refine I2 bP yU rX ?_ ?_ ?_ ?_ ?_|refine I2 bP SX PL ?_ ?_ ?_ ?_ ?_|refine I2 bP HJ Yc ?_ ?_ ?_ ?_ ?_|refine I2 bP AD Oa ?_ ?_ ?_ ?_ ?_|refine I2 bP MO IC ?_ ?_ ?_ ?_ ?_|refine IA ?_ ?_ ?_|refine L1 ?_ ?_|refine L2 ?_ ?_|refine L3 ?_ ?_ ?_ ?_|refine L4 ?_ ?_|refine L5 ?_ ?_ ?_ ?_ ?_|refine L6 ?_ ?_ ?_ ?_ ?_|refine N1 (gF ?_ ?_ ?_ ?_ ?_ ?_ ?_ hne) ?_ ?_|refine P0 (lX ?_ ?_ ?_ ?_ ?_ ?_ ?_) ?_ ?_ ?_|refine I3 bP yR rU ?_ ?_ ?_ ?_ ?_|refine I3 bP yV rY ?_ ?_ ?_ ?_ ?_|refine dE ?_ ?_ ?_ ?_|refine GN 279 ?_ ?_ ?_|refine ACN.of (oH ?_ ?_ ?_ ?_ ?_ ?_ ?_ ?_) ?_|refine P0 (rO) ?_ ?_ ?_|refine ACV.of (rO) ?_ ?_ ?_|refine ACK.of (rO) ?_ ?_|refine P0 (yA) ?_ ?_ ?_|refine ACV.of (yA) ?_ ?_ ?_|refine ACK.of (yA) ?_ ?_|simp -implicitDefEqProofs only [lL,qA,bN,bD,bO,aJ,aP,qU,List.reduceReplicate,Nat.reduceAdd,Nat.reduceSub,Nat.reduceLeDiff,Nat.reduceEqDiff,Nat.reduceMul,reduceIte,reduceCtorEq,qI,Nat.reduceLT,Nat.reduceBEq,BN,uP,CD,Qf,Kl,Ts,cL,Int.toNat_natCast,bH,dM,dO,hX,hpc,hI,Int.reduceToNat,Nat.mul_one,cE,cG,rL,Int.reduceLE,Int.reduceLT,Int.toNat_zero,Int.toNat_one,Int.le_refl,set_set,bG,uM,uQ, *]
  all_goals first
    | omega
    | (constructor <;> omega)
    | exact Wk.refl _
    | (simp only [nP,Bool.and_eq_true] at hI; with_reducible exact hI.1.1)
    | (refine Wk.of_eq ?_
       have htr:=eU hchk hge hlt
       try simp only [decide_eq_true_eq,decide_eq_false_iff_not,Bool.not_eq_true] at *
       unfold Ct Cr
       try simp only [me] at *
       have hw:=cV htr
       clear hchk hI hside hruns htr
       try simp only [*,reduceIte,if_true,if_false,Bool.false_eq_true,and_true,true_and,and_false,false_and,and_self,not_true_eq_false,not_false_eq_true,ne_eq,Int.reduceEq,Int.reduceNe]
       try rw [List.take_of_length_le (by simp [cE,cG])]
       simp only [bR,dM,dO,kZ,cK,cR,eJ,cQ,cH,vI,kM,fZ,gD,iD,fB,eP,dD,dU,me,bG,set_set,List.length_set,gZ,fQ,eT,eS,eR,fP,eQ,hD,gQ,fH,eF,eE,eD,fG,eC,gS,gR,hG hpc, *]
       done)
    | skip

end Go.Sak
