/- Part T52 of the proofs about the program: K51, K53, K52. Conditions: none. -/
import Derived.Test.YtahdilehajdhgaaGreatT51
open Bool renaming and_eq_true→E0,false_eq_true→G1,not_eq_true→I4
open Go.Sak.Config renaming mk→E4
open Go.Sak.Event renaming mk→D8
open Int renaming le_refl→K0,reduceEq→F5,reduceLE→J3,reduceLT→H8,reduceNe→F6,reduceToNat→I5,toNat_natCast→E1,toNat_one→J4,toNat_zero→H2
open List renaming flatMap_cons→J5,flatMap_nil→J9,length_set→G9,reduceReplicate→D2,take_of_length_le→F4
open Nat renaming mul_one→L7,reduceAdd→D5,reduceBEq→E2,reduceEqDiff→D1,reduceLT→E3,reduceLeDiff→D4,reduceMul→D7,reduceSub→D6
namespace Go.Sak
open Go Go.RowKit Go.Proofs
set_option linter.unusedVariables false
set_option linter.unusedSimpArgs false
set_option maxRecDepth 10000
set_option maxHeartbeats 8000000
theorem Uy {aW aV:Int} {aN aX:Int} {aG aO:Int} {aA:Bool} {bT bV bU:Int} {aB:List Slot} {aD aC:List Int} {aZ:Int} {aT:List Int} {bA:Int} {aU:List Int} {aL:Int} {aE:List Thread} {aK:List Entry} {id:Int} (h1:aB.length≤100000000) (h2:aD.length≤100000000) (h3:aC.length≤100000000) (h4:aT.length≤100000000) (h5:aU.length≤100000000) (h6:aE.length≤100000000) (h7:aK.length≤100000000) (hI:nJ (State.mk (E4 aW aV aN aX aG aO aA) (Word.mk bT bV bU) aB aD aC (D8 aZ aT) (D8 bA aU) aL aE aK) id=true) (hpc:(aE.getD id.toNat default).pc=1):cX Tryz.prog 190 [.agg [.int .i64 aW,.int .i64 aV,.int .i64 aN,.int .i64 aX,.int .i64 aG,.int .i64 aO,.bool aA,.int .i64 bT,.int .i64 bV,.int .i64 bU,.slv 2 (aB.map cU),.slv 1 (aD.map aS),.slv 1 (aC.map aS),.int .i64 aZ,.slv 1 (aT.map aS),.int .i64 bA,.slv 1 (aU.map aS),.int .i64 aL,.slv 11 (aE.map bH),.slv 5 (aK.map cO)],.int .i64 id] (.agg (bR (uZ (State.mk (E4 aW aV aN aX aG aO aA) (Word.mk bT bV bU) aB aD aC (D8 aZ aT) (D8 bA aU) aL aE aK) id)),[],[]):=by
  have hI':=hI
  simp only [nJ,cN,E0,decide_eq_true_eq] at hI'
  obtain ⟨⟨⟨⟨hchk,hge⟩,hlt⟩,hruns⟩,hside⟩:=hI'
  have hid:id.toNat<aE.length:=by omega
  have hne:aE≠[]:=by intro h; subst h; simp at hlt; omega
  refine aI bP xL (by simp [lN]) fun hw _=>?_
  clear hw
  repeat' with_reducible first|refine aQ (fun h=>?_) (fun h=>?_)|refine bB (fun h=>?_) (fun h=>?_)|refine aF (fun h=>?_) (fun h=>?_)|refine aH (fun h=>?_) (fun h=>?_)|refine FN ?_ ?_ ?_ ?_ rfl ?_|refine aR ?_ ?_|refine bC ?_ ?_|refine bM ?_ ?_|refine I2 bP TI PO ?_ ?_ ?_ ?_ ?_|refine I2 bP yX sA ?_ ?_ ?_ ?_ ?_|refine I2 bP HL Ye ?_ ?_ ?_ ?_ ?_|refine I2 bP HO Yh ?_ ?_ ?_ ?_ ?_|refine I2 bP MQ IE ?_ ?_ ?_ ?_ ?_|refine Hg [(209,209),(241,210)] ?_ ?_ ?_|refine IA ?_ ?_ ?_|refine L1 ?_ ?_|refine L2 ?_ ?_|refine L3 ?_ ?_ ?_ ?_|refine L4 ?_ ?_|refine L5 ?_ ?_ ?_ ?_ ?_|refine L6 ?_ ?_ ?_ ?_ ?_|refine N1 (gG ?_ ?_ ?_ ?_ ?_ ?_ ?_ hne) ?_ ?_|refine P0 (lZ ?_ ?_ ?_ ?_ ?_ ?_ ?_) ?_ ?_ ?_|refine I2 bP yT rW ?_ ?_ ?_ ?_ ?_|refine IA ?_ ?_ ?_|refine I3 bP yU rX ?_ ?_ ?_ ?_ ?_|refine I3 bP yY sB ?_ ?_ ?_ ?_ ?_|refine dE ?_ ?_ ?_ ?_|refine GN 279 ?_ ?_ ?_|refine ACN.of (oI ?_ ?_ ?_ ?_ ?_ ?_ ?_ ?_) ?_|refine P0 (xV ?_) ?_ ?_ ?_|refine ACV.of (xV ?_) ?_ ?_ ?_|refine ACK.of (xV ?_) ?_ ?_|simp -implicitDefEqProofs only [lN,qA,bN,bD,bO,aJ,aP,qU,D2,D5,D6,D4,D1,D7,reduceIte,reduceCtorEq,qI,E3,E2,CP,uS,Qh,Qm,Tu,cL,E1,bH,fM,eX,fJ,AV.isInt,dV,Blk.inN,Blk.nms,J5,J9,dM,dO,iA,hpc,hI,I5,L7,cE,cG,J3,H8,F5,F6,H2,J4,K0,set_set,bG,uP,uT,uO, *]
  all_goals first
    | omega
    | (constructor <;> omega)
    | exact Wk.refl _
    | (simp only [nJ,E0] at hI; with_reducible exact hI.1.1)
    | (refine Wk.of_eq ?_
       have htr:=eU hchk hge hlt
       try simp only [decide_eq_true_eq,decide_eq_false_iff_not,I4] at *
       unfold uZ
       try simp only [me] at *
       have hw:=cV htr
       clear hchk hI hside hruns htr
       try simp only [*,reduceIte,if_true,if_false,G1,and_true,true_and,and_false,false_and,and_self,not_true_eq_false,not_false_eq_true,ne_eq,F5,F6]
       try rw [F4 (by simp [cE,cG])]
       simp only [bR,dM,dO,lA,cK,cR,eI,cQ,cH,vJ,kN,fZ,gE,iE,fB,eP,kL,dD,dU,me,bG,set_set,G9,hD,fQ,eT,eS,eR,fP,eQ,hG,gR,fH,eF,eE,eD,fG,eC,gU,gS,hP hpc, *]
       done)
    | skip

set_option maxHeartbeats 8000000
theorem GW {t:Thread} {k r:Int} (h:t.pc=k):(⟨t.st,t.kind,t.val,t.untl,k,r,t.seen,t.tries,t.late,t.res,t.got⟩:Thread)=fB t r:=by subst h; rfl
theorem Xi {s:State} {id:Int} (h:nJ s id=true):cN (dD (cK s (kH s.word s.slots.length).1) id (fB (me s id) (kH s.word s.slots.length).2.1)) id=true:=by
  simp only [nJ,E0,decide_eq_true_eq] at h
  have hR:Rn s id:=Jr h.1.1 h.1.2
  have hl:=hR.fab.len
  have hw:Rn (cK s (kH s.word s.slots.length).1) id:=hR.wd (by rw [hl]; exact Pt hR.fab.word)
  have ha:=Ov (w:=s.word) (room:=s.slots.length) (by rw [hl]; exact hR.fab.word)
  exact (hw.reg ha.1 ha.2).is
theorem Xj {c:Config} {w0:Word} {sl:List Slot} {a b:List Int} {f e:Event} {n:Int} {th:List Thread} {lg:List Entry} {id:Int} (h:nJ ⟨c,w0,sl,a,b,f,e,n,th,lg⟩ id=true):cN ⟨c,⟨(kH w0 sl.length).1.h,(kH w0 sl.length).1.t,(kH w0 sl.length).1.m⟩,sl,a,b,f,e,n,th.set id.toNat (fB (th.getD id.toNat default) (kH w0 sl.length).2.1),lg⟩ id=true:=by
  have e:=Xi h
  simp only [cK,dD,me] at e
  exact e
theorem Va {aW aV:Int} {aN aX:Int} {aG aO:Int} {aA:Bool} {bT bV bU:Int} {aB:List Slot} {aD aC:List Int} {aZ:Int} {aT:List Int} {bA:Int} {aU:List Int} {aL:Int} {aE:List Thread} {aK:List Entry} {id:Int} (h1:aB.length≤100000000) (h2:aD.length≤100000000) (h3:aC.length≤100000000) (h4:aT.length≤100000000) (h5:aU.length≤100000000) (h6:aE.length≤100000000) (h7:aK.length≤100000000) (hI:nJ (State.mk (E4 aW aV aN aX aG aO aA) (Word.mk bT bV bU) aB aD aC (D8 aZ aT) (D8 bA aU) aL aE aK) id=true) (hpc:(aE.getD id.toNat default).pc=3):cX Tryz.prog 190 [.agg [.int .i64 aW,.int .i64 aV,.int .i64 aN,.int .i64 aX,.int .i64 aG,.int .i64 aO,.bool aA,.int .i64 bT,.int .i64 bV,.int .i64 bU,.slv 2 (aB.map cU),.slv 1 (aD.map aS),.slv 1 (aC.map aS),.int .i64 aZ,.slv 1 (aT.map aS),.int .i64 bA,.slv 1 (aU.map aS),.int .i64 aL,.slv 11 (aE.map bH),.slv 5 (aK.map cO)],.int .i64 id] (.agg (bR (Bv (State.mk (E4 aW aV aN aX aG aO aA) (Word.mk bT bV bU) aB aD aC (D8 aZ aT) (D8 bA aU) aL aE aK) id)),[],[]):=by
  have hI':=hI
  simp only [nJ,cN,E0,decide_eq_true_eq] at hI'
  obtain ⟨⟨⟨⟨hchk,hge⟩,hlt⟩,hruns⟩,hside⟩:=hI'
  have hid:id.toNat<aE.length:=by omega
  have hne:aE≠[]:=by intro h; subst h; simp at hlt; omega
  refine aI bP xL (by simp [lN]) fun hw _=>?_
  clear hw
  repeat' with_reducible first|refine aQ (fun h=>?_) (fun h=>?_)|refine bB (fun h=>?_) (fun h=>?_)|refine aF (fun h=>?_) (fun h=>?_)|refine aH (fun h=>?_) (fun h=>?_)|refine FN ?_ ?_ ?_ ?_ rfl ?_|refine aR ?_ ?_|refine bC ?_ ?_|refine bM ?_ ?_|refine I2 bP TL PS ?_ ?_ ?_ ?_ ?_|refine I2 bP yX sA ?_ ?_ ?_ ?_ ?_|refine I2 bP HL Ye ?_ ?_ ?_ ?_ ?_|refine I2 bP HO Yh ?_ ?_ ?_ ?_ ?_|refine Hg [(209,209),(241,210)] ?_ ?_ ?_|refine IA ?_ ?_ ?_|refine L1 ?_ ?_|refine L2 ?_ ?_|refine L3 ?_ ?_ ?_ ?_|refine L4 ?_ ?_|refine L5 ?_ ?_ ?_ ?_ ?_|refine L6 ?_ ?_ ?_ ?_ ?_|refine N1 (gG ?_ ?_ ?_ ?_ ?_ ?_ ?_ hne) ?_ ?_|refine P0 (lZ ?_ ?_ ?_ ?_ ?_ ?_ ?_) ?_ ?_ ?_|refine I2 bP yT rW ?_ ?_ ?_ ?_ ?_|refine IA ?_ ?_ ?_|refine I3 bP yU rX ?_ ?_ ?_ ?_ ?_|refine I3 bP yY sB ?_ ?_ ?_ ?_ ?_|refine dE ?_ ?_ ?_ ?_|refine GN 279 ?_ ?_ ?_|refine ACN.of (oI ?_ ?_ ?_ ?_ ?_ ?_ ?_ ?_) ?_|refine AC.via 258 (by simp -implicitDefEqProofs only [qA,bN,bD,bO,aJ,aP,qU,D2,D5,D6,D4,D1,D7,reduceIte,reduceCtorEq,qI,E3,E2, *]; exact rfl) ?_ ?_ ?_|refine ACV.of (Vo ?_ ?_ ?_ ?_ ?_ ?_ ?_) ?_ ?_ ?_|refine P0 (xS) ?_ ?_ ?_|refine ACV.of (xS) ?_ ?_ ?_|refine ACK.of (xS) ?_ ?_|simp -implicitDefEqProofs only [lN,qA,bN,bD,bO,aJ,aP,qU,D2,D5,D6,D4,D1,D7,reduceIte,reduceCtorEq,qI,E3,E2,CT,uS,Qh,Qm,cL,E1,bH,fM,eX,fJ,AV.isInt,dV,Blk.inN,Blk.nms,J5,J9,dM,dO,iA,hpc,hI,I5,L7,cE,cG,J3,H8,F5,F6,H2,J4,K0,set_set,bG,uP,uT,uO, *]
  all_goals first
    | omega
    | (constructor <;> omega)
    | exact Wk.refl _
    | (simp only [GW hpc]; with_reducible exact Xj hI)
    | (simp only [nJ,E0] at hI; with_reducible exact hI.1.1)
    | (refine Wk.of_eq ?_
       have htr:=eU hchk hge hlt
       try simp only [decide_eq_true_eq,decide_eq_false_iff_not,I4] at *
       unfold Bv
       try simp only [me] at *
       have hw:=cV htr
       clear hchk hI hside hruns htr
       try simp only [*,reduceIte,if_true,if_false,G1,and_true,true_and,and_false,false_and,and_self,not_true_eq_false,not_false_eq_true,ne_eq,F5,F6]
       try rw [F4 (by simp [cE,cG])]
       simp only [bR,dM,dO,lA,cK,cR,eI,cQ,cH,vJ,kN,fZ,gE,iE,fB,eP,kL,dD,dU,me,bG,set_set,G9,hD,fQ,eT,eS,eR,fP,eQ,hG,gR,fH,eF,eE,eD,fG,eC,gU,gS,hP hpc, *]
       done)
    | skip

set_option maxHeartbeats 8000000
theorem Uz {aW aV:Int} {aN aX:Int} {aG aO:Int} {aA:Bool} {bT bV bU:Int} {aB:List Slot} {aD aC:List Int} {aZ:Int} {aT:List Int} {bA:Int} {aU:List Int} {aL:Int} {aE:List Thread} {aK:List Entry} {id:Int} (h1:aB.length≤100000000) (h2:aD.length≤100000000) (h3:aC.length≤100000000) (h4:aT.length≤100000000) (h5:aU.length≤100000000) (h6:aE.length≤100000000) (h7:aK.length≤100000000) (hI:nJ (State.mk (E4 aW aV aN aX aG aO aA) (Word.mk bT bV bU) aB aD aC (D8 aZ aT) (D8 bA aU) aL aE aK) id=true) (hpc:(aE.getD id.toNat default).pc=2):cX Tryz.prog 190 [.agg [.int .i64 aW,.int .i64 aV,.int .i64 aN,.int .i64 aX,.int .i64 aG,.int .i64 aO,.bool aA,.int .i64 bT,.int .i64 bV,.int .i64 bU,.slv 2 (aB.map cU),.slv 1 (aD.map aS),.slv 1 (aC.map aS),.int .i64 aZ,.slv 1 (aT.map aS),.int .i64 bA,.slv 1 (aU.map aS),.int .i64 aL,.slv 11 (aE.map bH),.slv 5 (aK.map cO)],.int .i64 id] (.agg (bR (Bu (State.mk (E4 aW aV aN aX aG aO aA) (Word.mk bT bV bU) aB aD aC (D8 aZ aT) (D8 bA aU) aL aE aK) id)),[],[]):=by
  have hI':=hI
  simp only [nJ,cN,E0,decide_eq_true_eq] at hI'
  obtain ⟨⟨⟨⟨hchk,hge⟩,hlt⟩,hruns⟩,hside⟩:=hI'
  have hid:id.toNat<aE.length:=by omega
  have hne:aE≠[]:=by intro h; subst h; simp at hlt; omega
  refine aI bP xL (by simp [lN]) fun hw _=>?_
  clear hw
  repeat' with_reducible first|refine aQ (fun h=>?_) (fun h=>?_)|refine bB (fun h=>?_) (fun h=>?_)|refine aF (fun h=>?_) (fun h=>?_)|refine aH (fun h=>?_) (fun h=>?_)|refine FN ?_ ?_ ?_ ?_ rfl ?_|refine aR ?_ ?_|refine bC ?_ ?_|refine bM ?_ ?_|refine I2 bP TJ PP ?_ ?_ ?_ ?_ ?_|refine I2 bP yX sA ?_ ?_ ?_ ?_ ?_|refine I2 bP TK PQ ?_ ?_ ?_ ?_ ?_|refine I2 bP HL Ye ?_ ?_ ?_ ?_ ?_|refine I2 bP HO Yh ?_ ?_ ?_ ?_ ?_|refine I2 bP MQ IE ?_ ?_ ?_ ?_ ?_|refine Hg [(209,209),(241,210)] ?_ ?_ ?_|refine IA ?_ ?_ ?_|refine L1 ?_ ?_|refine L2 ?_ ?_|refine L3 ?_ ?_ ?_ ?_|refine L4 ?_ ?_|refine L5 ?_ ?_ ?_ ?_ ?_|refine L6 ?_ ?_ ?_ ?_ ?_|refine N1 (gG ?_ ?_ ?_ ?_ ?_ ?_ ?_ hne) ?_ ?_|refine P0 (lZ ?_ ?_ ?_ ?_ ?_ ?_ ?_) ?_ ?_ ?_|refine I2 bP yT rW ?_ ?_ ?_ ?_ ?_|refine IA ?_ ?_ ?_|refine I3 bP yU rX ?_ ?_ ?_ ?_ ?_|refine I3 bP yY sB ?_ ?_ ?_ ?_ ?_|refine dE ?_ ?_ ?_ ?_|refine GN 279 ?_ ?_ ?_|refine ACN.of (oI ?_ ?_ ?_ ?_ ?_ ?_ ?_ ?_) ?_|refine P0 (rP) ?_ ?_ ?_|refine ACV.of (rP) ?_ ?_ ?_|refine ACK.of (rP) ?_ ?_|refine P0 (yB) ?_ ?_ ?_|refine ACV.of (yB) ?_ ?_ ?_|refine ACK.of (yB) ?_ ?_|simp -implicitDefEqProofs only [lN,qA,bN,bD,bO,aJ,aP,qU,D2,D5,D6,D4,D1,D7,reduceIte,reduceCtorEq,qI,E3,E2,CQ,uS,CS,Qh,Qm,Tu,cL,E1,bH,fM,eX,fJ,AV.isInt,dV,Blk.inN,Blk.nms,J5,J9,dM,dO,iA,hpc,hI,I5,L7,cE,cG,J3,H8,F5,F6,H2,J4,K0,set_set,bG,uP,uT,uO, *]
  all_goals first
    | omega
    | (constructor <;> omega)
    | exact Wk.refl _
    | (simp only [nJ,E0] at hI; with_reducible exact hI.1.1)
    | (refine Wk.of_eq ?_
       have htr:=eU hchk hge hlt
       try simp only [decide_eq_true_eq,decide_eq_false_iff_not,I4] at *
       unfold Bu Bw
       try simp only [me] at *
       have hw:=cV htr
       clear hchk hI hside hruns htr
       try simp only [*,reduceIte,if_true,if_false,G1,and_true,true_and,and_false,false_and,and_self,not_true_eq_false,not_false_eq_true,ne_eq,F5,F6]
       try rw [F4 (by simp [cE,cG])]
       simp only [bR,dM,dO,lA,cK,cR,eI,cQ,cH,vJ,kN,fZ,gE,iE,fB,eP,kL,dD,dU,me,bG,set_set,G9,hD,fQ,eT,eS,eR,fP,eQ,hG,gR,fH,eF,eE,eD,fG,eC,gU,gS,hP hpc, *]
       done)
    | skip

end Go.Sak
