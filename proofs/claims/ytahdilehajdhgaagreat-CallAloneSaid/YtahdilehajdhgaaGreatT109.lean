/- Part T109 of the proofs about the program: K210, K211. Conditions: none. -/
import Derived.Test.YtahdilehajdhgaaGreatT107
import Derived.Test.YtahdilehajdhgaaGreatT31
import Derived.Test.YtahdilehajdhgaaGreatT16
open Go.Sak.AC renaming mc→W5,n1→W6,p0→G9
open Go.Sak.AV renaming pure→H3
open Bool renaming and_true→G6
open Int renaming reduceEq→F4,reduceNe→F5,toNat_natCast→E0
open List renaming map_append→J5,reduceReplicate→D1,take_length→N6,take_zero→R3
open Nat renaming le_refl→G1,reduceAdd→D4,reduceBEq→E1,reduceEqDiff→D0,reduceLT→E2,reduceLeDiff→D3,reduceMul→D6,reduceSub→D5
namespace Go.Sak
open Go Go.RowKit Go.Proofs
set_option linter.unusedVariables false
set_option linter.unusedSimpArgs false
set_option maxRecDepth 10000
set_option maxHeartbeats 8000000
def DI:AFn:=⟨38,(.seq (.reg [o1 4 (.mv (.const .slnil)),o1 5 (.mv (.const .slnil))]) (.seq (.seq (.reg [o1 9 (.mv 0),o1 10 (.call 85 [9]),o1 11 (.not 10)]) (.cond 11 (.seq (.reg [o1 12 (.mv 0),o1 13 (.call 86 [12]),o1 4 (.mv (.const .slnil)),o1 5 (.mv 13)]) .ret) .skip)) (.seq (.reg [o1 14 (.mv 0),o1 15 (.call 87 [14]),o1 6 (.mv 15)]) (.seq (.seq (.reg [o1 16 (.mv 0),o1 17 (.len 16),o1 18 (.mv (ci 0))]) (.block 0 (.loop (.seq (.reg [o1 19 (.bin .lss 18 17)]) (.seq (.cond 19 .skip (.exit 0)) (.seq (.block 1 (.seq (.reg [o1 20 (.iaddr 2 16 18),o1 21 (.ld 2 true 20),o1 8 (.alloc 51 [(.int .i64 0),(.int .i64 0)]),o2 (.st 2 8 21)]) (.seq (.reg [o1 22 (.faddr 0 8),o1 23 (.ld 1 false 22),o1 24 (.mv 1),o1 25 (.bin .leq 23 24)]) (.cond 25 (.seq (.reg [o1 26 (.mv 4),o1 27 (.faddr 1 8),o1 28 (.ld 1 false 27),o1 29 (.bslice 3 1 1 [28]),o1 30 (.app 3 1 8 26 29),o1 4 (.mv 30)]) (.reg [o1 31 (.mv 6),o1 32 (.faddr 1 8),o1 33 (.ld 1 false 32),o2 (.mdel 31 33)])) .skip)))) (.reg [o1 34 (.bin .add 18 (ci 1)),o1 18 (.mv 34)]))))))) (.seq (.reg [o1 35 (.mv 4),o1 36 (.mv 6),o1 37 (.call 88 [36]),o1 4 (.mv 35),o1 5 (.mv 37)]) .ret))))),[(4,none),(5,none)]⟩
theorem C3:xf Tryz.prog 42=some DI:=by kernel_rfl
theorem HU {l : List Due} {now:Int} (hl:l.length≤10000):cX Tryz.prog 42 [.slv 2 (l.map cC),.int .i64 now] (.tup [.slv 1 ((kE l now).1.map aS),.slv 2 ((kE l now).2.map cC)],[],[]):=by
  have hbl:(iG l).length≤l.length:=by have:=yF l []; simpa [iG] using this
  have hpl:(iY l (iG l) now).length≤100000:=by have:=Jb l (iG l) now; omega
  have e0:fC [] now=[]:=rfl
  have e1:iY [] (iG l) now=iG l:=rfl
  refine aI bP C3 (by simp [DI]) fun hw _=>?_
  clear hw
  have zd:=qD
  have zm:=Om
  repeat' with_reducible first|refine aQ (fun h=>?_) (fun h=>?_)|refine bB (fun h=>?_) (fun h=>?_)|refine aF (fun h=>?_) (fun h=>?_)|refine aH (fun h=>?_) (fun h=>?_)|refine FN ?_ ?_ ?_ ?_ rfl ?_|refine aR ?_ ?_|refine bC ?_ ?_|refine bM ?_ ?_|refine IA ?_ ?_ ?_|refine L1 ?_ ?_|refine L2 ?_ ?_|refine L3 ?_ ?_ ?_ ?_|refine L4 ?_ ?_|refine L5 ?_ ?_ ?_ ?_ ?_|refine L6 ?_ ?_ ?_ ?_ ?_|refine W6 (zE ?_) ?_ (by simp -implicitDefEqProofs only [qU,pures,H3,bQ bK,lN,bK,G6]; done) ?_|refine G9 (zC ?_) ?_ (by simp -implicitDefEqProofs only [qU,pures,H3,bQ bK,lN,bK,G6]; done) ?_ ?_|refine G9 (zD ?_) ?_ (by simp -implicitDefEqProofs only [qU,pures,H3,bQ bK,lN,bK,G6]; done) ?_ ?_|refine W5 _ (sM ?_) ?_ (G1 _) (by simp -implicitDefEqProofs only [qA,bN,bD,bO,aJ,aP,qU,D1,D4,D5,D3,D0,D6,reduceIte,reduceCtorEq,qI,E2,E1,qM, *]; exact rfl) (by exact rfl) ?_ ?_ ?_ ?_ ?_|refine Cg (by simp -implicitDefEqProofs only [m_get,D0,reduceIte,if_true,if_false]; first|done|exact rfl) ?_|refine Jg (by simp -implicitDefEqProofs only [m_get,D0,reduceIte,if_true,if_false]; first|done|exact rfl) ?_|refine eK (d:=default) ?_ ?_|refine jJ (eL _ _ _ _ _ _ (by simp -implicitDefEqProofs only [m_get,D0,reduceIte,if_true,if_false]; first|done|exact rfl) ?_) ?_ ?_ ?_ ?_|refine eM (eL _ _ _ _ _ _ (by simp -implicitDefEqProofs only [m_get,D0,reduceIte,if_true,if_false]; first|done|exact rfl) ?_) (by simp -implicitDefEqProofs only [m_get,D0,reduceIte,if_true,if_false]; first|done|exact rfl) ?_ ?_ ?_ ?_|refine Lr (by simp -implicitDefEqProofs only [m_get,D0,reduceIte,if_true,if_false]; first|done|exact rfl) ?_|simp -implicitDefEqProofs only [DI,qA,bN,bD,bO,aJ,aP,qU,D1,D4,D5,D3,D0,D6,reduceIte,reduceCtorEq,qI,E2,E1,cL,E0,bH,dW,mO,cC,Jy,rG,jR,Om,F4,F5,dI,dJ,bS,cJ,cY,bY,aS,dC,J5, *]
  all_goals first
    | refine oN 5 (fun i:Nat=>some (.slv 2 (l.map cC)) :: some (.int .i64 now) :: nl 2 (some (if fC (l.take i) now=[] then .slnil else .slm 3 (fC (l.take i) now).length) :: some (.slnil) :: some (.mapm 2) :: nl 9 (some (.slv 2 (l.map cC)) :: some (.int .i64 l.length) :: some (.int .i64 i) :: nl 19 []))) (fun i=>if fC (l.take i) now=[] then [(2,.mp ((iY (l.take i) (iG l) now).map lA))] else [(2,.mp ((iY (l.take i) (iG l) now).map lA)),(3,.rows 3 1 ((fC (l.take i) now).map aS))]) (fun i=>i≤l.length) (fun i=>l.length - i) [] [(97,2)] 0 (by omega) ?_ ?_ ?_ ?_ ?_ ?_
    | omega
    | (unfold kE; rw [if_pos (by assumption)]; exact Wk.tup ⟨Wk.nil 1,fun _=>rfl,Wk.refl _,fun _=>rfl,trivial⟩)
    | skip
  rotate_right
  · clear e0 e1
    intro i hi
    have hx:(dP l)=true:=by assumption
    have hil:=zI (l.take i) now
    rw [List.length_take] at hil
    simp only [dL,dK,all_nil,dI,dJ]
    intros
    rcases Nat.lt_or_eq_of_le hi with hlt | heq
    · have hd:((i:Int)<(l.length:Int))=True:=by simp; omega
      by_cases hk:(l.getD i default).tm≤now
      · have hs:=Sd (m:=iG l) hlt hk
        have hs2:=El hlt hk
        by_cases hne:fC (l.take i) now=[]
        · have hs3:¬ fC (l.take (i+1)) now=[]:=by rw [hs2]; simp
          rw [hne,List.nil_append] at hs2
          simp only [hne,if_true]
          repeat' with_reducible first|refine aQ (fun h=>?_) (fun h=>?_)|refine bB (fun h=>?_) (fun h=>?_)|refine aF (fun h=>?_) (fun h=>?_)|refine aH (fun h=>?_) (fun h=>?_)|refine FN ?_ ?_ ?_ ?_ rfl ?_|refine aR ?_ ?_|refine bC ?_ ?_|refine bM ?_ ?_|refine IA ?_ ?_ ?_|refine L1 ?_ ?_|refine L2 ?_ ?_|refine L3 ?_ ?_ ?_ ?_|refine L4 ?_ ?_|refine L5 ?_ ?_ ?_ ?_ ?_|refine L6 ?_ ?_ ?_ ?_ ?_|refine W6 (zE ?_) ?_ (by simp -implicitDefEqProofs only [qU,pures,H3,bQ bK,lN,bK,G6]; done) ?_|refine G9 (zC ?_) ?_ (by simp -implicitDefEqProofs only [qU,pures,H3,bQ bK,lN,bK,G6]; done) ?_ ?_|refine G9 (zD ?_) ?_ (by simp -implicitDefEqProofs only [qU,pures,H3,bQ bK,lN,bK,G6]; done) ?_ ?_|refine W5 _ (sM ?_) ?_ (G1 _) (by simp -implicitDefEqProofs only [qA,bN,bD,bO,aJ,aP,qU,D1,D4,D5,D3,D0,D6,reduceIte,reduceCtorEq,qI,E2,E1,qM, *]; exact rfl) (by exact rfl) ?_ ?_ ?_ ?_ ?_|refine Cg (by simp -implicitDefEqProofs only [m_get,D0,reduceIte,if_true,if_false]; first|done|exact rfl) ?_|refine Jg (by simp -implicitDefEqProofs only [m_get,D0,reduceIte,if_true,if_false]; first|done|exact rfl) ?_|refine eK (d:=default) ?_ ?_|refine jJ (eL _ _ _ _ _ _ (by simp -implicitDefEqProofs only [m_get,D0,reduceIte,if_true,if_false]; first|done|exact rfl) ?_) ?_ ?_ ?_ ?_|refine eM (eL _ _ _ _ _ _ (by simp -implicitDefEqProofs only [m_get,D0,reduceIte,if_true,if_false]; first|done|exact rfl) ?_) (by simp -implicitDefEqProofs only [m_get,D0,reduceIte,if_true,if_false]; first|done|exact rfl) ?_ ?_ ?_ ?_|refine Lr (by simp -implicitDefEqProofs only [m_get,D0,reduceIte,if_true,if_false]; first|done|exact rfl) ?_|refine gV [] [(2,2),(213,3)] (i+1) ?_ ?_ ?_ ?_ ?_ ?_|simp -implicitDefEqProofs only [DI,qA,bN,bD,bO,aJ,aP,qU,D1,D4,D5,D3,D0,D6,reduceIte,reduceCtorEq,qI,E2,E1,cL,E0,bH,dW,mO,cC,Jy,rG,jR,Om,F4,F5,dI,dJ,bS,cJ,cY,bY,aS,dC,J5, *]
          all_goals first
            | omega
            | rfl
            | (rw [bL (by omega) (by omega)]; omega)
            | skip
        · have hs4:(fC (l.take i) now ++ [(l.getD i default).id]=[])=False:=by simp
          simp only [if_neg hne]
          repeat' with_reducible first|refine aQ (fun h=>?_) (fun h=>?_)|refine bB (fun h=>?_) (fun h=>?_)|refine aF (fun h=>?_) (fun h=>?_)|refine aH (fun h=>?_) (fun h=>?_)|refine FN ?_ ?_ ?_ ?_ rfl ?_|refine aR ?_ ?_|refine bC ?_ ?_|refine bM ?_ ?_|refine IA ?_ ?_ ?_|refine L1 ?_ ?_|refine L2 ?_ ?_|refine L3 ?_ ?_ ?_ ?_|refine L4 ?_ ?_|refine L5 ?_ ?_ ?_ ?_ ?_|refine L6 ?_ ?_ ?_ ?_ ?_|refine W6 (zE ?_) ?_ (by simp -implicitDefEqProofs only [qU,pures,H3,bQ bK,lN,bK,G6]; done) ?_|refine G9 (zC ?_) ?_ (by simp -implicitDefEqProofs only [qU,pures,H3,bQ bK,lN,bK,G6]; done) ?_ ?_|refine G9 (zD ?_) ?_ (by simp -implicitDefEqProofs only [qU,pures,H3,bQ bK,lN,bK,G6]; done) ?_ ?_|refine W5 _ (sM ?_) ?_ (G1 _) (by simp -implicitDefEqProofs only [qA,bN,bD,bO,aJ,aP,qU,D1,D4,D5,D3,D0,D6,reduceIte,reduceCtorEq,qI,E2,E1,qM, *]; exact rfl) (by exact rfl) ?_ ?_ ?_ ?_ ?_|refine Cg (by simp -implicitDefEqProofs only [m_get,D0,reduceIte,if_true,if_false]; first|done|exact rfl) ?_|refine Jg (by simp -implicitDefEqProofs only [m_get,D0,reduceIte,if_true,if_false]; first|done|exact rfl) ?_|refine eK (d:=default) ?_ ?_|refine jJ (eL _ _ _ _ _ _ (by simp -implicitDefEqProofs only [m_get,D0,reduceIte,if_true,if_false]; first|done|exact rfl) ?_) ?_ ?_ ?_ ?_|refine eM (eL _ _ _ _ _ _ (by simp -implicitDefEqProofs only [m_get,D0,reduceIte,if_true,if_false]; first|done|exact rfl) ?_) (by simp -implicitDefEqProofs only [m_get,D0,reduceIte,if_true,if_false]; first|done|exact rfl) ?_ ?_ ?_ ?_|refine Lr (by simp -implicitDefEqProofs only [m_get,D0,reduceIte,if_true,if_false]; first|done|exact rfl) ?_|refine gV [] [(2,2),(213,3)] (i+1) ?_ ?_ ?_ ?_ ?_ ?_|simp -implicitDefEqProofs only [DI,qA,bN,bD,bO,aJ,aP,qU,D1,D4,D5,D3,D0,D6,reduceIte,reduceCtorEq,qI,E2,E1,cL,E0,bH,dW,mO,cC,Jy,rG,jR,Om,F4,F5,dI,dJ,bS,cJ,cY,bY,aS,dC,J5, *]
          all_goals first
            | omega
            | rfl
            | (rw [bL (by omega) (by omega)]; omega)
            | skip
      · have hs:=Sc (m:=iG l) hlt hk
        have hs2:=Ek hlt hk
        by_cases hne:fC (l.take i) now=[]
        · have hs3:fC (l.take (i+1)) now=[]:=by rw [hs2]; exact hne
          clear hs2
          simp only [hne,if_true]
          repeat' with_reducible first|refine aQ (fun h=>?_) (fun h=>?_)|refine bB (fun h=>?_) (fun h=>?_)|refine aF (fun h=>?_) (fun h=>?_)|refine aH (fun h=>?_) (fun h=>?_)|refine FN ?_ ?_ ?_ ?_ rfl ?_|refine aR ?_ ?_|refine bC ?_ ?_|refine bM ?_ ?_|refine IA ?_ ?_ ?_|refine L1 ?_ ?_|refine L2 ?_ ?_|refine L3 ?_ ?_ ?_ ?_|refine L4 ?_ ?_|refine L5 ?_ ?_ ?_ ?_ ?_|refine L6 ?_ ?_ ?_ ?_ ?_|refine W6 (zE ?_) ?_ (by simp -implicitDefEqProofs only [qU,pures,H3,bQ bK,lN,bK,G6]; done) ?_|refine G9 (zC ?_) ?_ (by simp -implicitDefEqProofs only [qU,pures,H3,bQ bK,lN,bK,G6]; done) ?_ ?_|refine G9 (zD ?_) ?_ (by simp -implicitDefEqProofs only [qU,pures,H3,bQ bK,lN,bK,G6]; done) ?_ ?_|refine W5 _ (sM ?_) ?_ (G1 _) (by simp -implicitDefEqProofs only [qA,bN,bD,bO,aJ,aP,qU,D1,D4,D5,D3,D0,D6,reduceIte,reduceCtorEq,qI,E2,E1,qM, *]; exact rfl) (by exact rfl) ?_ ?_ ?_ ?_ ?_|refine Cg (by simp -implicitDefEqProofs only [m_get,D0,reduceIte,if_true,if_false]; first|done|exact rfl) ?_|refine Jg (by simp -implicitDefEqProofs only [m_get,D0,reduceIte,if_true,if_false]; first|done|exact rfl) ?_|refine eK (d:=default) ?_ ?_|refine jJ (eL _ _ _ _ _ _ (by simp -implicitDefEqProofs only [m_get,D0,reduceIte,if_true,if_false]; first|done|exact rfl) ?_) ?_ ?_ ?_ ?_|refine eM (eL _ _ _ _ _ _ (by simp -implicitDefEqProofs only [m_get,D0,reduceIte,if_true,if_false]; first|done|exact rfl) ?_) (by simp -implicitDefEqProofs only [m_get,D0,reduceIte,if_true,if_false]; first|done|exact rfl) ?_ ?_ ?_ ?_|refine Lr (by simp -implicitDefEqProofs only [m_get,D0,reduceIte,if_true,if_false]; first|done|exact rfl) ?_|refine gV [] [(2,2)] (i+1) ?_ ?_ ?_ ?_ ?_ ?_|simp -implicitDefEqProofs only [DI,qA,bN,bD,bO,aJ,aP,qU,D1,D4,D5,D3,D0,D6,reduceIte,reduceCtorEq,qI,E2,E1,cL,E0,bH,dW,mO,cC,Jy,rG,jR,Om,F4,F5,dI,dJ,bS,cJ,cY,bY,aS,dC,J5, *]
          all_goals first
            | omega
            | rfl
            | (rw [bL (by omega) (by omega)]; omega)
            | skip
        · simp only [if_neg hne]
          repeat' with_reducible first|refine aQ (fun h=>?_) (fun h=>?_)|refine bB (fun h=>?_) (fun h=>?_)|refine aF (fun h=>?_) (fun h=>?_)|refine aH (fun h=>?_) (fun h=>?_)|refine FN ?_ ?_ ?_ ?_ rfl ?_|refine aR ?_ ?_|refine bC ?_ ?_|refine bM ?_ ?_|refine IA ?_ ?_ ?_|refine L1 ?_ ?_|refine L2 ?_ ?_|refine L3 ?_ ?_ ?_ ?_|refine L4 ?_ ?_|refine L5 ?_ ?_ ?_ ?_ ?_|refine L6 ?_ ?_ ?_ ?_ ?_|refine W6 (zE ?_) ?_ (by simp -implicitDefEqProofs only [qU,pures,H3,bQ bK,lN,bK,G6]; done) ?_|refine G9 (zC ?_) ?_ (by simp -implicitDefEqProofs only [qU,pures,H3,bQ bK,lN,bK,G6]; done) ?_ ?_|refine G9 (zD ?_) ?_ (by simp -implicitDefEqProofs only [qU,pures,H3,bQ bK,lN,bK,G6]; done) ?_ ?_|refine W5 _ (sM ?_) ?_ (G1 _) (by simp -implicitDefEqProofs only [qA,bN,bD,bO,aJ,aP,qU,D1,D4,D5,D3,D0,D6,reduceIte,reduceCtorEq,qI,E2,E1,qM, *]; exact rfl) (by exact rfl) ?_ ?_ ?_ ?_ ?_|refine Cg (by simp -implicitDefEqProofs only [m_get,D0,reduceIte,if_true,if_false]; first|done|exact rfl) ?_|refine Jg (by simp -implicitDefEqProofs only [m_get,D0,reduceIte,if_true,if_false]; first|done|exact rfl) ?_|refine eK (d:=default) ?_ ?_|refine jJ (eL _ _ _ _ _ _ (by simp -implicitDefEqProofs only [m_get,D0,reduceIte,if_true,if_false]; first|done|exact rfl) ?_) ?_ ?_ ?_ ?_|refine eM (eL _ _ _ _ _ _ (by simp -implicitDefEqProofs only [m_get,D0,reduceIte,if_true,if_false]; first|done|exact rfl) ?_) (by simp -implicitDefEqProofs only [m_get,D0,reduceIte,if_true,if_false]; first|done|exact rfl) ?_ ?_ ?_ ?_|refine Lr (by simp -implicitDefEqProofs only [m_get,D0,reduceIte,if_true,if_false]; first|done|exact rfl) ?_|refine gV [] [(2,2),(3,3)] (i+1) ?_ ?_ ?_ ?_ ?_ ?_|simp -implicitDefEqProofs only [DI,qA,bN,bD,bO,aJ,aP,qU,D1,D4,D5,D3,D0,D6,reduceIte,reduceCtorEq,qI,E2,E1,cL,E0,bH,dW,mO,cC,Jy,rG,jR,Om,F4,F5,dI,dJ,bS,cJ,cY,bY,aS,dC,J5, *]
          all_goals first
            | omega
            | rfl
            | (rw [bL (by omega) (by omega)]; omega)
            | skip
    · have hd : ((i:Int)<(l.length:Int))=False:=by simp; omega
      have hg:_root_.id (i=l.length):=heq
      clear heq
      have hpl2:(iY (l.take i) (iG l) now).length≤100000:=by obtain rfl:i=l.length:=hg; rw [N6]; exact hpl
      by_cases hne:fC (l.take i) now=[]
      · simp only [hne,if_true]
        repeat' with_reducible first|refine aQ (fun h=>?_) (fun h=>?_)|refine bB (fun h=>?_) (fun h=>?_)|refine aF (fun h=>?_) (fun h=>?_)|refine aH (fun h=>?_) (fun h=>?_)|refine FN ?_ ?_ ?_ ?_ rfl ?_|refine aR ?_ ?_|refine bC ?_ ?_|refine bM ?_ ?_|refine IA ?_ ?_ ?_|refine L1 ?_ ?_|refine L2 ?_ ?_|refine L3 ?_ ?_ ?_ ?_|refine L4 ?_ ?_|refine L5 ?_ ?_ ?_ ?_ ?_|refine L6 ?_ ?_ ?_ ?_ ?_|refine W6 (zE ?_) ?_ (by simp -implicitDefEqProofs only [qU,pures,H3,bQ bK,lN,bK,G6]; done) ?_|refine G9 (zC ?_) ?_ (by simp -implicitDefEqProofs only [qU,pures,H3,bQ bK,lN,bK,G6]; done) ?_ ?_|refine G9 (zD ?_) ?_ (by simp -implicitDefEqProofs only [qU,pures,H3,bQ bK,lN,bK,G6]; done) ?_ ?_|refine W5 _ (sM ?_) ?_ (G1 _) (by simp -implicitDefEqProofs only [qA,bN,bD,bO,aJ,aP,qU,D1,D4,D5,D3,D0,D6,reduceIte,reduceCtorEq,qI,E2,E1,qM, *]; exact rfl) (by exact rfl) ?_ ?_ ?_ ?_ ?_|refine Cg (by simp -implicitDefEqProofs only [m_get,D0,reduceIte,if_true,if_false]; first|done|exact rfl) ?_|refine Jg (by simp -implicitDefEqProofs only [m_get,D0,reduceIte,if_true,if_false]; first|done|exact rfl) ?_|refine eK (d:=default) ?_ ?_|refine jJ (eL _ _ _ _ _ _ (by simp -implicitDefEqProofs only [m_get,D0,reduceIte,if_true,if_false]; first|done|exact rfl) ?_) ?_ ?_ ?_ ?_|refine eM (eL _ _ _ _ _ _ (by simp -implicitDefEqProofs only [m_get,D0,reduceIte,if_true,if_false]; first|done|exact rfl) ?_) (by simp -implicitDefEqProofs only [m_get,D0,reduceIte,if_true,if_false]; first|done|exact rfl) ?_ ?_ ?_ ?_|refine Lr (by simp -implicitDefEqProofs only [m_get,D0,reduceIte,if_true,if_false]; first|done|exact rfl) ?_|simp -implicitDefEqProofs only [DI,qA,bN,bD,bO,aJ,aP,qU,D1,D4,D5,D3,D0,D6,reduceIte,reduceCtorEq,qI,E2,E1,cL,E0,bH,dW,mO,cC,Jy,rG,jR,Om,F4,F5,dI,dJ,bS,cJ,cY,bY,aS,dC,J5, *]
        all_goals first
          | omega
          | exact hpl2
          | (obtain rfl:i=l.length:=hg
             rw [N6] at *
             unfold kE; rw [if_neg (by rw [hx]; decide),hne]
             exact Wk.tup ⟨Wk.nil 1,fun _=>rfl,Wk.refl _,fun _=>rfl,trivial⟩)
          | skip
      · simp only [if_neg hne]
        repeat' with_reducible first|refine aQ (fun h=>?_) (fun h=>?_)|refine bB (fun h=>?_) (fun h=>?_)|refine aF (fun h=>?_) (fun h=>?_)|refine aH (fun h=>?_) (fun h=>?_)|refine FN ?_ ?_ ?_ ?_ rfl ?_|refine aR ?_ ?_|refine bC ?_ ?_|refine bM ?_ ?_|refine IA ?_ ?_ ?_|refine L1 ?_ ?_|refine L2 ?_ ?_|refine L3 ?_ ?_ ?_ ?_|refine L4 ?_ ?_|refine L5 ?_ ?_ ?_ ?_ ?_|refine L6 ?_ ?_ ?_ ?_ ?_|refine W6 (zE ?_) ?_ (by simp -implicitDefEqProofs only [qU,pures,H3,bQ bK,lN,bK,G6]; done) ?_|refine G9 (zC ?_) ?_ (by simp -implicitDefEqProofs only [qU,pures,H3,bQ bK,lN,bK,G6]; done) ?_ ?_|refine G9 (zD ?_) ?_ (by simp -implicitDefEqProofs only [qU,pures,H3,bQ bK,lN,bK,G6]; done) ?_ ?_|refine W5 _ (sM ?_) ?_ (G1 _) (by simp -implicitDefEqProofs only [qA,bN,bD,bO,aJ,aP,qU,D1,D4,D5,D3,D0,D6,reduceIte,reduceCtorEq,qI,E2,E1,qM, *]; exact rfl) (by exact rfl) ?_ ?_ ?_ ?_ ?_|refine Cg (by simp -implicitDefEqProofs only [m_get,D0,reduceIte,if_true,if_false]; first|done|exact rfl) ?_|refine Jg (by simp -implicitDefEqProofs only [m_get,D0,reduceIte,if_true,if_false]; first|done|exact rfl) ?_|refine eK (d:=default) ?_ ?_|refine jJ (eL _ _ _ _ _ _ (by simp -implicitDefEqProofs only [m_get,D0,reduceIte,if_true,if_false]; first|done|exact rfl) ?_) ?_ ?_ ?_ ?_|refine eM (eL _ _ _ _ _ _ (by simp -implicitDefEqProofs only [m_get,D0,reduceIte,if_true,if_false]; first|done|exact rfl) ?_) (by simp -implicitDefEqProofs only [m_get,D0,reduceIte,if_true,if_false]; first|done|exact rfl) ?_ ?_ ?_ ?_|refine Lr (by simp -implicitDefEqProofs only [m_get,D0,reduceIte,if_true,if_false]; first|done|exact rfl) ?_|simp -implicitDefEqProofs only [DI,qA,bN,bD,bO,aJ,aP,qU,D1,D4,D5,D3,D0,D6,reduceIte,reduceCtorEq,qI,E2,E1,cL,E0,bH,dW,mO,cC,Jy,rG,jR,Om,F4,F5,dI,dJ,bS,cJ,cY,bY,aS,dC,J5, *]
        all_goals first
          | omega
          | exact hpl2
          | (obtain rfl:i=l.length:=hg
             rw [N6]
             unfold kE; rw [if_neg (by rw [hx]; decide)]
             exact Wk.refl _)
          | skip
  all_goals first
    | omega
    | (simp only [R3,e0,e1,if_true,stM,nameT,lk,Yn,List.contains_nil,Bool.false_eq_true,if_false]; simp; done)
    | (simp only [R3,e0,e1,if_true]; simp -implicitDefEqProofs only [qA,bN,bD,bO,aJ,aP,qU,D1,D4,D5,D3,D0,D6,reduceIte,reduceCtorEq,qI,E2,E1,qZ,dI,dJ,qD,Om,e0,e1]; first | done | (simp; done))
    | (simp -implicitDefEqProofs only [qA,bN,bD,bO,aJ,aP,qU,D1,D4,D5,D3,D0,D6,reduceIte,reduceCtorEq,qI,E2,E1,qZ,dI,dJ,qD,Om,e0,e1]; first | done | exact rfl | (simp; done))
    | skip

set_option maxHeartbeats 8000000
def UI:AFn:=⟨28,(.seq (.reg [o1 2 (.box 29 0),o1 4 (.alloc 29 [(.int .i64 0),.slnil]),o1 5 (.mv (.const (.bool false)))]) (.seq (.reg [o1 9 (.faddr 1 2),o1 10 (.ld 1 false 9),o1 11 (.mv 1),o1 12 (.call 89 [10,11]),o1 8 (.mv 12),o1 13 (.ext 8 0),o1 14 (.ext 8 1),o1 6 (.mv 13),o1 7 (.mv 14)]) (.seq (.seq (.reg [o1 15 (.ld 2 true 2),o1 16 (.call 55 [15]),o1 17 (.not 16),o1 18 (.mv 17),o4 19 (.mv 7) 18,o4 20 (.bin .neq 19 (ci 0)) 18,o1 21 (.pick 18 (.const (.bool true)) 20)]) (.cond 21 (.seq (.reg [o1 22 (.ld 2 true 2),o1 23 (.call 90 [22]),o2 (.st 2 4 23),o1 5 (.mv (.const (.bool false)))]) .ret) .skip)) (.seq (.reg [o1 24 (.faddr 0 2),o1 25 (.ld 1 false 24),o1 26 (.mv 6),o1 27 (.build [(.int .i64 0),.slnil] [(0,1,25),(1,1,26)]),o2 (.st 2 4 27),o1 5 (.mv (.const (.bool true)))]) .ret)))),[(4,some (2,true)),(5,none)]⟩
theorem YI:xf Tryz.prog 44=some UI:=by kernel_rfl
theorem HV {fF:Int} {eH:List Int} {id:Int} (hl:eH.length≤100000000):cX Tryz.prog 44 [.agg [.int .i64 fF,.slv 1 (eH.map aS)],.int .i64 id] ((.tup [.agg (dO ((gJ (Event.mk fF eH) id).1)),.bool ((gJ (Event.mk fF eH) id).2)]),[],[]):=by
  refine aI bP YI (by simp [UI]) fun hw _=>?_
  simp only [iR,AV.wf,aY] at hw
  repeat' with_reducible first|refine aQ (fun h=>?_) (fun h=>?_)|refine bB (fun h=>?_) (fun h=>?_)|refine aF (fun h=>?_) (fun h=>?_)|refine aH (fun h=>?_) (fun h=>?_)|refine bJ ?_ ?_ ?_ ?_|refine aR ?_ ?_|refine bC ?_ ?_|refine bM ?_ ?_|refine P0 (fT ?_) ?_ ?_ ?_|refine ACV.of (fT ?_) ?_ ?_ ?_|refine ACK.of (fT ?_) ?_ ?_|refine P0 (gU ?_) ?_ ?_ ?_|refine ACV.of (gU ?_) ?_ ?_ ?_|refine ACK.of (gU ?_) ?_ ?_|refine P0 (nS ?_) ?_ ?_ ?_|refine ACV.of (nS ?_) ?_ ?_ ?_|refine ACK.of (nS ?_) ?_ ?_|simp -implicitDefEqProofs only [UI,qA,cS,cW,aJ,aP,qU,D1,D4,D5,D3,D0,D6,reduceIte,reduceCtorEq,dO, *]
  all_goals first
    | (simp; done)
    | exact bE
    | exact bE.symm
    | grind [aY,bL,bI,gJ]

end Go.Sak
