/- Part T52 of the proofs about the program: K51, K53, K52. Conditions: none. -/
import Derived.Test.YtahdilehajdhgaaGreatT51
open Bool renaming and_eq_true→D9,false_eq_true→G0,not_eq_true→I1
open Go.Sak.Config renaming mk→E3
open Go.Sak.Event renaming mk→D7
open Int renaming le_refl→J9,reduceEq→F4,reduceLE→J2,reduceLT→H7,reduceNe→F5,reduceToNat→I4,toNat_natCast→E0,toNat_one→J3,toNat_zero→H1
open List renaming flatMap_cons→J4,flatMap_nil→J8,length_set→G8,reduceReplicate→D1,take_of_length_le→F3
open Nat renaming mul_one→L0,reduceAdd→D4,reduceBEq→E1,reduceEqDiff→D0,reduceLT→E2,reduceLeDiff→D3,reduceMul→D6,reduceSub→D5
namespace Go.Sak
open Go Go.RowKit Go.Proofs
set_option linter.unusedVariables false
set_option linter.unusedSimpArgs false
set_option maxRecDepth 10000
set_option maxHeartbeats 8000000
theorem Ux {aW aV:Int} {aN aX:Int} {aG aO:Int} {aA:Bool} {bT bV bU:Int} {aB:List Slot} {aD aC:List Int} {aZ:Int} {aT:List Int} {bA:Int} {aU:List Int} {aL:Int} {aE:List Thread} {aK:List Entry} {id:Int} (h1:aB.length≤100000000) (h2:aD.length≤100000000) (h3:aC.length≤100000000) (h4:aT.length≤100000000) (h5:aU.length≤100000000) (h6:aE.length≤100000000) (h7:aK.length≤100000000) (hI:nI (State.mk (E3 aW aV aN aX aG aO aA) (Word.mk bT bV bU) aB aD aC (D7 aZ aT) (D7 bA aU) aL aE aK) id=true) (hpc:(aE.getD id.toNat default).pc=1):cX Tryz.prog 190 [.agg [.int .i64 aW,.int .i64 aV,.int .i64 aN,.int .i64 aX,.int .i64 aG,.int .i64 aO,.bool aA,.int .i64 bT,.int .i64 bV,.int .i64 bU,.slv 2 (aB.map cU),.slv 1 (aD.map aS),.slv 1 (aC.map aS),.int .i64 aZ,.slv 1 (aT.map aS),.int .i64 bA,.slv 1 (aU.map aS),.int .i64 aL,.slv 11 (aE.map bH),.slv 5 (aK.map cO)],.int .i64 id] (.agg (bR (uY (State.mk (E3 aW aV aN aX aG aO aA) (Word.mk bT bV bU) aB aD aC (D7 aZ aT) (D7 bA aU) aL aE aK) id)),[],[]):=by
  have hI':=hI
  simp only [nI,cN,D9,decide_eq_true_eq] at hI'
  obtain ⟨⟨⟨⟨hchk,hge⟩,hlt⟩,hruns⟩,hside⟩:=hI'
  have hid:id.toNat<aE.length:=by omega
  have hne:aE≠[]:=by intro h; subst h; simp at hlt; omega
  refine aI bP xK (by simp [lM]) fun hw _=>?_
  clear hw
  repeat' with_reducible first|refine aQ (fun h=>?_) (fun h=>?_)|refine bB (fun h=>?_) (fun h=>?_)|refine aF (fun h=>?_) (fun h=>?_)|refine aH (fun h=>?_) (fun h=>?_)|refine FN ?_ ?_ ?_ ?_ rfl ?_|refine aR ?_ ?_|refine bC ?_ ?_|refine bM ?_ ?_|refine I2 bP TH PN ?_ ?_ ?_ ?_ ?_|refine I2 bP yW rZ ?_ ?_ ?_ ?_ ?_|refine I2 bP HK Yd ?_ ?_ ?_ ?_ ?_|refine I2 bP HN Yg ?_ ?_ ?_ ?_ ?_|refine I2 bP MP ID ?_ ?_ ?_ ?_ ?_|refine Hf [(209,209),(241,210)] ?_ ?_ ?_|refine IA ?_ ?_ ?_|refine L1 ?_ ?_|refine L2 ?_ ?_|refine L3 ?_ ?_ ?_ ?_|refine L4 ?_ ?_|refine L5 ?_ ?_ ?_ ?_ ?_|refine L6 ?_ ?_ ?_ ?_ ?_|refine N1 (gF ?_ ?_ ?_ ?_ ?_ ?_ ?_ hne) ?_ ?_|refine P0 (lY ?_ ?_ ?_ ?_ ?_ ?_ ?_) ?_ ?_ ?_|refine I2 bP yS rV ?_ ?_ ?_ ?_ ?_|refine IA ?_ ?_ ?_|refine I3 bP yT rW ?_ ?_ ?_ ?_ ?_|refine I3 bP yX sA ?_ ?_ ?_ ?_ ?_|refine dE ?_ ?_ ?_ ?_|refine GN 279 ?_ ?_ ?_|refine ACN.of (oH ?_ ?_ ?_ ?_ ?_ ?_ ?_ ?_) ?_|refine P0 (xU ?_) ?_ ?_ ?_|refine ACV.of (xU ?_) ?_ ?_ ?_|refine ACK.of (xU ?_) ?_ ?_|simp -implicitDefEqProofs only [lM,qA,bN,bD,bO,aJ,aP,qU,D1,D4,D5,D3,D0,D6,reduceIte,reduceCtorEq,qI,E2,E1,CO,uR,Qg,Ql,Tt,cL,E0,bH,fM,eX,fJ,AV.isInt,dV,Blk.inN,Blk.nms,J4,J8,dM,dO,hX,hpc,hI,I4,L0,cE,cG,J2,H7,F4,F5,H1,J3,J9,set_set,bG,uO,uS,uN, *]
  all_goals first
    | omega
    | (constructor <;> omega)
    | exact Wk.refl _
    | (simp only [nI,D9] at hI; with_reducible exact hI.1.1)
    | (refine Wk.of_eq ?_
       have htr:=eU hchk hge hlt
       try simp only [decide_eq_true_eq,decide_eq_false_iff_not,I1] at *
       unfold uY
       try simp only [me] at *
       have hw:=cV htr
       clear hchk hI hside hruns htr
       try simp only [*,reduceIte,if_true,if_false,G0,and_true,true_and,and_false,false_and,and_self,not_true_eq_false,not_false_eq_true,ne_eq,F4,F5]
       try rw [F3 (by simp [cE,cG])]
       simp only [bR,dM,dO,kZ,cK,cR,eI,cQ,cH,vI,kM,fZ,gD,iD,fB,eP,kK,dD,dU,me,bG,set_set,G8,gZ,fQ,eT,eS,eR,fP,eQ,hD,gQ,fH,eF,eE,eD,fG,eC,gS,gR,hG hpc, *]
       done)
    | skip

set_option maxHeartbeats 8000000
theorem GV {t:Thread} {k r:Int} (h:t.pc=k):(⟨t.st,t.kind,t.val,t.untl,k,r,t.seen,t.tries,t.late,t.res,t.got⟩:Thread)=fB t r:=by subst h; rfl
theorem Xc {s:State} {id:Int} (h:nI s id=true):cN (dD (cK s (kG s.word s.slots.length).1) id (fB (me s id) (kG s.word s.slots.length).2.1)) id=true:=by
  simp only [nI,D9,decide_eq_true_eq] at h
  have hR:Rn s id:=Jq h.1.1 h.1.2
  have hl:=hR.fab.len
  have hw:Rn (cK s (kG s.word s.slots.length).1) id:=hR.wd (by rw [hl]; exact Pq hR.fab.word)
  have ha:=Ou (w:=s.word) (room:=s.slots.length) (by rw [hl]; exact hR.fab.word)
  exact (hw.reg ha.1 ha.2).is
theorem Xi {c:Config} {w0:Word} {sl:List Slot} {a b:List Int} {f e:Event} {n:Int} {th:List Thread} {lg:List Entry} {id:Int} (h:nI ⟨c,w0,sl,a,b,f,e,n,th,lg⟩ id=true):cN ⟨c,⟨(kG w0 sl.length).1.h,(kG w0 sl.length).1.t,(kG w0 sl.length).1.m⟩,sl,a,b,f,e,n,th.set id.toNat (fB (th.getD id.toNat default) (kG w0 sl.length).2.1),lg⟩ id=true:=by
  have e:=Xc h
  simp only [cK,dD,me] at e
  exact e
theorem Uz {aW aV:Int} {aN aX:Int} {aG aO:Int} {aA:Bool} {bT bV bU:Int} {aB:List Slot} {aD aC:List Int} {aZ:Int} {aT:List Int} {bA:Int} {aU:List Int} {aL:Int} {aE:List Thread} {aK:List Entry} {id:Int} (h1:aB.length≤100000000) (h2:aD.length≤100000000) (h3:aC.length≤100000000) (h4:aT.length≤100000000) (h5:aU.length≤100000000) (h6:aE.length≤100000000) (h7:aK.length≤100000000) (hI:nI (State.mk (E3 aW aV aN aX aG aO aA) (Word.mk bT bV bU) aB aD aC (D7 aZ aT) (D7 bA aU) aL aE aK) id=true) (hpc:(aE.getD id.toNat default).pc=3):cX Tryz.prog 190 [.agg [.int .i64 aW,.int .i64 aV,.int .i64 aN,.int .i64 aX,.int .i64 aG,.int .i64 aO,.bool aA,.int .i64 bT,.int .i64 bV,.int .i64 bU,.slv 2 (aB.map cU),.slv 1 (aD.map aS),.slv 1 (aC.map aS),.int .i64 aZ,.slv 1 (aT.map aS),.int .i64 bA,.slv 1 (aU.map aS),.int .i64 aL,.slv 11 (aE.map bH),.slv 5 (aK.map cO)],.int .i64 id] (.agg (bR (Bu (State.mk (E3 aW aV aN aX aG aO aA) (Word.mk bT bV bU) aB aD aC (D7 aZ aT) (D7 bA aU) aL aE aK) id)),[],[]):=by
  have hI':=hI
  simp only [nI,cN,D9,decide_eq_true_eq] at hI'
  obtain ⟨⟨⟨⟨hchk,hge⟩,hlt⟩,hruns⟩,hside⟩:=hI'
  have hid:id.toNat<aE.length:=by omega
  have hne:aE≠[]:=by intro h; subst h; simp at hlt; omega
  refine aI bP xK (by simp [lM]) fun hw _=>?_
  clear hw
  repeat' with_reducible first|refine aQ (fun h=>?_) (fun h=>?_)|refine bB (fun h=>?_) (fun h=>?_)|refine aF (fun h=>?_) (fun h=>?_)|refine aH (fun h=>?_) (fun h=>?_)|refine FN ?_ ?_ ?_ ?_ rfl ?_|refine aR ?_ ?_|refine bC ?_ ?_|refine bM ?_ ?_|refine I2 bP TK PQ ?_ ?_ ?_ ?_ ?_|refine I2 bP yW rZ ?_ ?_ ?_ ?_ ?_|refine I2 bP HK Yd ?_ ?_ ?_ ?_ ?_|refine I2 bP HN Yg ?_ ?_ ?_ ?_ ?_|refine Hf [(209,209),(241,210)] ?_ ?_ ?_|refine IA ?_ ?_ ?_|refine L1 ?_ ?_|refine L2 ?_ ?_|refine L3 ?_ ?_ ?_ ?_|refine L4 ?_ ?_|refine L5 ?_ ?_ ?_ ?_ ?_|refine L6 ?_ ?_ ?_ ?_ ?_|refine N1 (gF ?_ ?_ ?_ ?_ ?_ ?_ ?_ hne) ?_ ?_|refine P0 (lY ?_ ?_ ?_ ?_ ?_ ?_ ?_) ?_ ?_ ?_|refine I2 bP yS rV ?_ ?_ ?_ ?_ ?_|refine IA ?_ ?_ ?_|refine I3 bP yT rW ?_ ?_ ?_ ?_ ?_|refine I3 bP yX sA ?_ ?_ ?_ ?_ ?_|refine dE ?_ ?_ ?_ ?_|refine GN 279 ?_ ?_ ?_|refine ACN.of (oH ?_ ?_ ?_ ?_ ?_ ?_ ?_ ?_) ?_|refine AC.via 258 (by simp -implicitDefEqProofs only [qA,bN,bD,bO,aJ,aP,qU,D1,D4,D5,D3,D0,D6,reduceIte,reduceCtorEq,qI,E2,E1, *]; exact rfl) ?_ ?_ ?_|refine ACV.of (Vn ?_ ?_ ?_ ?_ ?_ ?_ ?_) ?_ ?_ ?_|refine P0 (xR) ?_ ?_ ?_|refine ACV.of (xR) ?_ ?_ ?_|refine ACK.of (xR) ?_ ?_|simp -implicitDefEqProofs only [lM,qA,bN,bD,bO,aJ,aP,qU,D1,D4,D5,D3,D0,D6,reduceIte,reduceCtorEq,qI,E2,E1,CS,uR,Qg,Ql,cL,E0,bH,fM,eX,fJ,AV.isInt,dV,Blk.inN,Blk.nms,J4,J8,dM,dO,hX,hpc,hI,I4,L0,cE,cG,J2,H7,F4,F5,H1,J3,J9,set_set,bG,uO,uS,uN, *]
  all_goals first
    | omega
    | (constructor <;> omega)
    | exact Wk.refl _
    | (simp only [GV hpc]; with_reducible exact Xi hI)
    | (simp only [nI,D9] at hI; with_reducible exact hI.1.1)
    | (refine Wk.of_eq ?_
       have htr:=eU hchk hge hlt
       try simp only [decide_eq_true_eq,decide_eq_false_iff_not,I1] at *
       unfold Bu
       try simp only [me] at *
       have hw:=cV htr
       clear hchk hI hside hruns htr
       try simp only [*,reduceIte,if_true,if_false,G0,and_true,true_and,and_false,false_and,and_self,not_true_eq_false,not_false_eq_true,ne_eq,F4,F5]
       try rw [F3 (by simp [cE,cG])]
       simp only [bR,dM,dO,kZ,cK,cR,eI,cQ,cH,vI,kM,fZ,gD,iD,fB,eP,kK,dD,dU,me,bG,set_set,G8,gZ,fQ,eT,eS,eR,fP,eQ,hD,gQ,fH,eF,eE,eD,fG,eC,gS,gR,hG hpc, *]
       done)
    | skip

set_option maxHeartbeats 8000000
theorem Uy {aW aV:Int} {aN aX:Int} {aG aO:Int} {aA:Bool} {bT bV bU:Int} {aB:List Slot} {aD aC:List Int} {aZ:Int} {aT:List Int} {bA:Int} {aU:List Int} {aL:Int} {aE:List Thread} {aK:List Entry} {id:Int} (h1:aB.length≤100000000) (h2:aD.length≤100000000) (h3:aC.length≤100000000) (h4:aT.length≤100000000) (h5:aU.length≤100000000) (h6:aE.length≤100000000) (h7:aK.length≤100000000) (hI:nI (State.mk (E3 aW aV aN aX aG aO aA) (Word.mk bT bV bU) aB aD aC (D7 aZ aT) (D7 bA aU) aL aE aK) id=true) (hpc:(aE.getD id.toNat default).pc=2):cX Tryz.prog 190 [.agg [.int .i64 aW,.int .i64 aV,.int .i64 aN,.int .i64 aX,.int .i64 aG,.int .i64 aO,.bool aA,.int .i64 bT,.int .i64 bV,.int .i64 bU,.slv 2 (aB.map cU),.slv 1 (aD.map aS),.slv 1 (aC.map aS),.int .i64 aZ,.slv 1 (aT.map aS),.int .i64 bA,.slv 1 (aU.map aS),.int .i64 aL,.slv 11 (aE.map bH),.slv 5 (aK.map cO)],.int .i64 id] (.agg (bR (Bt (State.mk (E3 aW aV aN aX aG aO aA) (Word.mk bT bV bU) aB aD aC (D7 aZ aT) (D7 bA aU) aL aE aK) id)),[],[]):=by
  have hI':=hI
  simp only [nI,cN,D9,decide_eq_true_eq] at hI'
  obtain ⟨⟨⟨⟨hchk,hge⟩,hlt⟩,hruns⟩,hside⟩:=hI'
  have hid:id.toNat<aE.length:=by omega
  have hne:aE≠[]:=by intro h; subst h; simp at hlt; omega
  refine aI bP xK (by simp [lM]) fun hw _=>?_
  clear hw
  repeat' with_reducible first|refine aQ (fun h=>?_) (fun h=>?_)|refine bB (fun h=>?_) (fun h=>?_)|refine aF (fun h=>?_) (fun h=>?_)|refine aH (fun h=>?_) (fun h=>?_)|refine FN ?_ ?_ ?_ ?_ rfl ?_|refine aR ?_ ?_|refine bC ?_ ?_|refine bM ?_ ?_|refine I2 bP TI PO ?_ ?_ ?_ ?_ ?_|refine I2 bP yW rZ ?_ ?_ ?_ ?_ ?_|refine I2 bP TJ PP ?_ ?_ ?_ ?_ ?_|refine I2 bP HK Yd ?_ ?_ ?_ ?_ ?_|refine I2 bP HN Yg ?_ ?_ ?_ ?_ ?_|refine I2 bP MP ID ?_ ?_ ?_ ?_ ?_|refine Hf [(209,209),(241,210)] ?_ ?_ ?_|refine IA ?_ ?_ ?_|refine L1 ?_ ?_|refine L2 ?_ ?_|refine L3 ?_ ?_ ?_ ?_|refine L4 ?_ ?_|refine L5 ?_ ?_ ?_ ?_ ?_|refine L6 ?_ ?_ ?_ ?_ ?_|refine N1 (gF ?_ ?_ ?_ ?_ ?_ ?_ ?_ hne) ?_ ?_|refine P0 (lY ?_ ?_ ?_ ?_ ?_ ?_ ?_) ?_ ?_ ?_|refine I2 bP yS rV ?_ ?_ ?_ ?_ ?_|refine IA ?_ ?_ ?_|refine I3 bP yT rW ?_ ?_ ?_ ?_ ?_|refine I3 bP yX sA ?_ ?_ ?_ ?_ ?_|refine dE ?_ ?_ ?_ ?_|refine GN 279 ?_ ?_ ?_|refine ACN.of (oH ?_ ?_ ?_ ?_ ?_ ?_ ?_ ?_) ?_|refine P0 (rO) ?_ ?_ ?_|refine ACV.of (rO) ?_ ?_ ?_|refine ACK.of (rO) ?_ ?_|refine P0 (yA) ?_ ?_ ?_|refine ACV.of (yA) ?_ ?_ ?_|refine ACK.of (yA) ?_ ?_|simp -implicitDefEqProofs only [lM,qA,bN,bD,bO,aJ,aP,qU,D1,D4,D5,D3,D0,D6,reduceIte,reduceCtorEq,qI,E2,E1,CP,uR,CQ,Qg,Ql,Tt,cL,E0,bH,fM,eX,fJ,AV.isInt,dV,Blk.inN,Blk.nms,J4,J8,dM,dO,hX,hpc,hI,I4,L0,cE,cG,J2,H7,F4,F5,H1,J3,J9,set_set,bG,uO,uS,uN, *]
  all_goals first
    | omega
    | (constructor <;> omega)
    | exact Wk.refl _
    | (simp only [nI,D9] at hI; with_reducible exact hI.1.1)
    | (refine Wk.of_eq ?_
       have htr:=eU hchk hge hlt
       try simp only [decide_eq_true_eq,decide_eq_false_iff_not,I1] at *
       unfold Bt Bv
       try simp only [me] at *
       have hw:=cV htr
       clear hchk hI hside hruns htr
       try simp only [*,reduceIte,if_true,if_false,G0,and_true,true_and,and_false,false_and,and_self,not_true_eq_false,not_false_eq_true,ne_eq,F4,F5]
       try rw [F3 (by simp [cE,cG])]
       simp only [bR,dM,dO,kZ,cK,cR,eI,cQ,cH,vI,kM,fZ,gD,iD,fB,eP,kK,dD,dU,me,bG,set_set,G8,gZ,fQ,eT,eS,eR,fP,eQ,hD,gQ,fH,eF,eE,eD,fG,eC,gS,gR,hG hpc, *]
       done)
    | skip

end Go.Sak
