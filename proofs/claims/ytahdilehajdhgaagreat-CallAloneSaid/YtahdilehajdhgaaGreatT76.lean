/- Part T76 of the proofs about the program: K85, K84. Conditions: none. -/
import Derived.Test.YtahdilehajdhgaaGreatT33
import Derived.Test.YtahdilehajdhgaaGreatT75
open Go.Sak.AC renaming inl2→f9,p0→G9
open Go.Sak.AV renaming isInt→M7,pure→H3
open Go.Sak.Blk renaming inN→P2,nms→Q5
open Bool renaming and_eq_true→D9,and_true→G6
open Int renaming natCast_zero→F1,reduceEq→F4,reduceNe→F5,toNat_natCast→E0
open List renaming flatMap_cons→J4,flatMap_nil→J8,reduceReplicate→D1
open Nat renaming reduceAdd→D4,reduceBEq→E1,reduceEqDiff→D0,reduceLT→E2,reduceLeDiff→D3,reduceMul→D6,reduceSub→D5
namespace Go.Sak
open Go Go.RowKit Go.Proofs
set_option linter.unusedVariables false
set_option linter.unusedSimpArgs false
set_option maxRecDepth 10000
set_option maxHeartbeats 8000000
theorem tN {t:Thread}:cX Tryz.prog 124 [.agg (bH t)] (.int .i64 (kB t),[],[]):=by
  obtain ⟨a1,a2,a3,a4,a5,a6,a7,a8,a9,a10,a11⟩:=t; exact kH
set_option maxHeartbeats 8000000
def uL:AFn:=⟨8,(.seq (.reg [o1 3 (.alloc 33 [(.int .i64 0),(.int .i64 0),(.int .i64 0),(.int .i64 0),(.int .i64 0),(.int .i64 0),(.bool false),(.int .i64 0),(.int .i64 0),(.int .i64 0),.slnil,.slnil,.slnil,(.int .i64 0),.slnil,(.int .i64 0),.slnil,(.int .i64 0),.slnil,.slnil]),o1 4 (.mv (ci 0))]) (.seq (.reg [o1 5 (.ld 20 true 1),o1 6 (.call 41 [5,(ci (-1))]),o1 7 (.mv 0),o2 (.st 20 3 6),o1 4 (.mv 7)]) .ret)),[(3,some (20,true)),(4,none)]⟩
theorem Mg:xf Tryz.prog 132=some uL:=by kernel_rfl
theorem Em:uL.code.lf=true:=rfl
def Fl:AFn:=⟨6,(.seq (.reg [o1 0 (.mv (.const .mapnil))]) (.seq (.reg [o1 1 (.mkmap),o1 2 (.build [.fnnil] [(0,1,(.func 189))]),o2 (.mupd 1 (ci 1) 2),o1 3 (.build [.fnnil] [(0,1,(.func 190))]),o2 (.mupd 1 (ci 2) 3),o1 4 (.build [.fnnil] [(0,1,(.func 191))]),o2 (.mupd 1 (ci 3) 4),o1 5 (.mv 1),o1 0 (.mv 5)]) .ret)),[(0,none)]⟩
theorem Mh:xf Tryz.prog 133=some Fl:=by kernel_rfl
theorem En:Fl.code.lf=true:=rfl
def Mr:AFn:=⟨55,(.seq (.reg [o1 2 (.box 33 0),o1 4 (.alloc 33 [(.int .i64 0),(.int .i64 0),(.int .i64 0),(.int .i64 0),(.int .i64 0),(.int .i64 0),(.bool false),(.int .i64 0),(.int .i64 0),(.int .i64 0),.slnil,.slnil,.slnil,(.int .i64 0),.slnil,(.int .i64 0),.slnil,(.int .i64 0),.slnil,.slnil]),o1 5 (.mv (ci 0))]) (.seq (.reg [o1 9 (.mkfn (.func 132) [] [2]),o1 6 (.mv 9)]) (.seq (.block 0 (.seq (.reg [o1 11 (.ld 20 true 2),o1 12 (.call 18 [11]),o1 13 (.not 12),o1 10 (.mv 13)]) (.cond 10 (.seq (.reg [o1 14 (.mv 6),o1 15 (.callv 14 [(ci 20)]),o1 16 (.ext 15 0),o1 17 (.ext 15 1),o2 (.st 20 4 16),o1 5 (.mv 17)]) .ret) (.seq (.reg [o1 19 (.mv 1),o1 20 (.bin .lss 19 (ci 0)),o1 21 (.mv 20),o4 22 (.mv 1) 21,o4 23 (.faddr 18 2) 21,o4 24 (.ld 1 false 23) 21,o4 25 (.len 24) 21,o4 26 (.bin .geq 22 25) 21,o1 27 (.pick 21 (.const (.bool true)) 26),o1 18 (.mv 27)]) (.cond 18 (.seq (.reg [o1 28 (.mv 6),o1 29 (.callv 28 [(ci 123)]),o1 30 (.ext 29 0),o1 31 (.ext 29 1),o2 (.st 20 4 30),o1 5 (.mv 31)]) .ret) .skip))))) (.seq (.reg [o1 32 (.faddr 18 2),o1 33 (.ld 1 false 32),o1 34 (.mv 1),o1 35 (.iaddr 11 33 34),o1 36 (.ld 11 true 35),o1 7 (.alloc 42 [(.int .i64 0),(.int .i64 0),(.int .i64 0),(.int .i64 0),(.int .i64 0),(.int .i64 0),(.int .i64 0),(.int .i64 0),(.bool false),(.int .i64 0),(.int .i64 0)]),o2 (.st 11 7 36)]) (.seq (.seq (.reg [o1 37 (.ld 11 true 7),o1 38 (.call 124 [37]),o1 8 (.mv 38)]) (.seq (.reg [o1 39 (.mv 8),o1 40 (.bin .neq 39 (ci 0))]) (.cond 40 (.seq (.reg [o1 41 (.mv 6),o1 42 (.mv 8),o1 43 (.callv 41 [42]),o1 44 (.ext 43 0),o1 45 (.ext 43 1),o2 (.st 20 4 44),o1 5 (.mv 45)]) .ret) .skip))) (.seq (.regT [o1 46 (.call 133 []),o1 47 (.faddr 1 7),o1 48 (.ld 1 false 47),o1 49 (.call 75 [48]),o1 50 (.lkp (.agg [.fnnil]) false 46 49),o1 51 (.fld 0 1 false 50),o1 52 (.ld 20 true 2),o1 53 (.mv 1),o1 54 (.callv 51 [52,53]),o2 (.st 20 4 54),o1 5 (.mv (ci 0))] [(0,1),(0,2),(0,6),(1,6),(2,6),(3,6),(4,6)]) .ret)))))),[(4,some (20,true)),(5,none)]⟩
theorem MV:xf Tryz.prog 83=some Mr:=by kernel_rfl
theorem GP {s:State} {id:Int} (hf:cN s id=true) (hr:kB (me s id)=0):kJ (me s id).kind=1∨kJ (me s id).kind=2∨kJ (me s id).kind=3:=by
  have hR:Rn s id:=Jq hf hr
  have hk:=hR.tc
  simp only [cZ,nC,lI,D9,Bool.or_eq_true,decide_eq_true_eq] at hk
  have hst:¬ (me s id).st=0:=by intro h; rw [kB,if_pos h] at hr; simp at hr
  have hs:kJ (me s id).kind > 0:=by
    rcases hk.1.1.1.2 with h | h
    · exact h
    · exact absurd h.2 hst
  unfold kJ at hs ⊢
  split
  · exact .inl rfl
  · split
    · exact .inr (.inl rfl)
    · split
      · exact .inr (.inr rfl)
      · simp_all
theorem KK {s:State} {id:Int} (hb:Bd s 100000000):cX Tryz.prog 83 [.agg (bR s),.int .i64 id] (.tup [.agg (bR (iU s id).1),.int .i64 (iU s id).2],[],[]):=by
  by_cases hf:cN s id=true
  · have hf':=hf
    simp only [cN,D9,decide_eq_true_eq] at hf'
    obtain ⟨⟨hck,hge⟩,hlt⟩:=hf'
    have hd1:decide (id<0)=false:=by simp; omega
    have hd2:decide (id≥(s.threads.length:Int))=false:=by simp; omega
    have hid:id.toNat<s.threads.length:=by omega
    by_cases hr:kB (me s id)=0
    · have hp:iU s id=(oO s id,0):=by unfold iU; rw [if_neg (by simp [hck]),if_neg (by omega),if_neg (by simp [hr])]
      rw [hp]
      rcases GP hf hr with hs | hs | hs
      · rw [show oO s id=oQ s id from if_pos hs]
        unfold me at hr hs
        refine aI bP MV (by simp [Mr]) fun hw _=>?_
        clear hw hf hp
        repeat' with_reducible first|refine aQ (fun h=>?_) (fun h=>?_)|refine bB (fun h=>?_) (fun h=>?_)|refine aF (fun h=>?_) (fun h=>?_)|refine aH (fun h=>?_) (fun h=>?_)|refine FN ?_ ?_ ?_ ?_ rfl ?_|refine aR ?_ ?_|refine bC ?_ ?_|refine bM ?_ ?_|refine IA ?_ ?_ ?_|refine L1 ?_ ?_|refine L2 ?_ ?_|refine L3 ?_ ?_ ?_ ?_|refine L4 ?_ ?_|refine L5 ?_ ?_ ?_ ?_ ?_|refine L6 ?_ ?_ ?_ ?_ ?_|refine f9 bP Mg Em (by simp [uL]) ?_ (by simp -implicitDefEqProofs only [qA,bN,bD,bO,aJ,aP,qU,D1,D4,D5,D3,D0,D6,reduceIte,reduceCtorEq,qI,E2,E1,qZ,qM, *]; exact rfl) ?_ ?_ ?_ ?_|refine I2 bP Mh En ?_ ?_ ?_ ?_ ?_|refine IA ?_ ?_ ?_|refine Hf [(209,209)] ?_ ?_ ?_|refine G9 (jK ?_) ?_ (by simp -implicitDefEqProofs only [qU,pure_encZ]; done) ?_ ?_|refine G9 (lZ ?_) ?_ (by simp -implicitDefEqProofs only [qU,pure_encZ]; done) ?_ ?_|refine G9 (tO ?_) ?_ (by simp -implicitDefEqProofs only [qU,pure_encZ]; done) ?_ ?_|refine G9 (tP ?_) ?_ (by simp -implicitDefEqProofs only [qU,pure_encZ]; done) ?_ ?_|refine G9 (tQ ?_) ?_ (by simp -implicitDefEqProofs only [qU,pure_encZ]; done) ?_ ?_|refine G9 (tN) ?_ (by simp -implicitDefEqProofs only [qU,pures,H3,pure_encT,G6]; done) ?_ ?_|refine eK (d:=default) ?_ ?_|refine P0 (gI) ?_ ?_ ?_|refine ACV.of (gI) ?_ ?_ ?_|refine ACK.of (gI) ?_ ?_|simp -implicitDefEqProofs only [Mr,qA,bN,bD,bO,aJ,aP,qU,D1,D4,D5,D3,D0,D6,reduceIte,reduceCtorEq,qI,E2,E1,cL,E0,uL,qZ,qC,qT,fM,eX,fJ,M7,dV,P2,Q5,J4,J8,F4,F5,F1,nL,Fl, *]
        all_goals first
          | exact Wk.refl _
          | (refine Nat.le_of_eq_of_le ?_ (by assumption); done)
          | exact hb
          | omega
          | (exfalso; simp only [decide_eq_false_iff_not] at *; omega)
          | skip
      · rw [show oO s id=oL s id from by unfold oO; rw [if_neg (by omega),if_pos hs]]
        unfold me at hr hs
        refine aI bP MV (by simp [Mr]) fun hw _=>?_
        clear hw hf hp
        repeat' with_reducible first|refine aQ (fun h=>?_) (fun h=>?_)|refine bB (fun h=>?_) (fun h=>?_)|refine aF (fun h=>?_) (fun h=>?_)|refine aH (fun h=>?_) (fun h=>?_)|refine FN ?_ ?_ ?_ ?_ rfl ?_|refine aR ?_ ?_|refine bC ?_ ?_|refine bM ?_ ?_|refine IA ?_ ?_ ?_|refine L1 ?_ ?_|refine L2 ?_ ?_|refine L3 ?_ ?_ ?_ ?_|refine L4 ?_ ?_|refine L5 ?_ ?_ ?_ ?_ ?_|refine L6 ?_ ?_ ?_ ?_ ?_|refine f9 bP Mg Em (by simp [uL]) ?_ (by simp -implicitDefEqProofs only [qA,bN,bD,bO,aJ,aP,qU,D1,D4,D5,D3,D0,D6,reduceIte,reduceCtorEq,qI,E2,E1,qZ,qM, *]; exact rfl) ?_ ?_ ?_ ?_|refine I2 bP Mh En ?_ ?_ ?_ ?_ ?_|refine IA ?_ ?_ ?_|refine Hf [(209,209)] ?_ ?_ ?_|refine G9 (jK ?_) ?_ (by simp -implicitDefEqProofs only [qU,pure_encZ]; done) ?_ ?_|refine G9 (lZ ?_) ?_ (by simp -implicitDefEqProofs only [qU,pure_encZ]; done) ?_ ?_|refine G9 (tO ?_) ?_ (by simp -implicitDefEqProofs only [qU,pure_encZ]; done) ?_ ?_|refine G9 (tP ?_) ?_ (by simp -implicitDefEqProofs only [qU,pure_encZ]; done) ?_ ?_|refine G9 (tQ ?_) ?_ (by simp -implicitDefEqProofs only [qU,pure_encZ]; done) ?_ ?_|refine G9 (tN) ?_ (by simp -implicitDefEqProofs only [qU,pures,H3,pure_encT,G6]; done) ?_ ?_|refine eK (d:=default) ?_ ?_|refine P0 (gI) ?_ ?_ ?_|refine ACV.of (gI) ?_ ?_ ?_|refine ACK.of (gI) ?_ ?_|simp -implicitDefEqProofs only [Mr,qA,bN,bD,bO,aJ,aP,qU,D1,D4,D5,D3,D0,D6,reduceIte,reduceCtorEq,qI,E2,E1,cL,E0,uL,qZ,qC,qT,fM,eX,fJ,M7,dV,P2,Q5,J4,J8,F4,F5,F1,nL,Fl, *]
        all_goals first
          | exact Wk.refl _
          | (refine Nat.le_of_eq_of_le ?_ (by assumption); done)
          | exact hb
          | omega
          | (exfalso; simp only [decide_eq_false_iff_not] at *; omega)
          | skip
      · rw [show oO s id=lP s id from by unfold oO; rw [if_neg (by omega),if_neg (by omega)]]
        unfold me at hr hs
        refine aI bP MV (by simp [Mr]) fun hw _=>?_
        clear hw hf hp
        repeat' with_reducible first|refine aQ (fun h=>?_) (fun h=>?_)|refine bB (fun h=>?_) (fun h=>?_)|refine aF (fun h=>?_) (fun h=>?_)|refine aH (fun h=>?_) (fun h=>?_)|refine FN ?_ ?_ ?_ ?_ rfl ?_|refine aR ?_ ?_|refine bC ?_ ?_|refine bM ?_ ?_|refine IA ?_ ?_ ?_|refine L1 ?_ ?_|refine L2 ?_ ?_|refine L3 ?_ ?_ ?_ ?_|refine L4 ?_ ?_|refine L5 ?_ ?_ ?_ ?_ ?_|refine L6 ?_ ?_ ?_ ?_ ?_|refine f9 bP Mg Em (by simp [uL]) ?_ (by simp -implicitDefEqProofs only [qA,bN,bD,bO,aJ,aP,qU,D1,D4,D5,D3,D0,D6,reduceIte,reduceCtorEq,qI,E2,E1,qZ,qM, *]; exact rfl) ?_ ?_ ?_ ?_|refine I2 bP Mh En ?_ ?_ ?_ ?_ ?_|refine IA ?_ ?_ ?_|refine Hf [(209,209)] ?_ ?_ ?_|refine G9 (jK ?_) ?_ (by simp -implicitDefEqProofs only [qU,pure_encZ]; done) ?_ ?_|refine G9 (lZ ?_) ?_ (by simp -implicitDefEqProofs only [qU,pure_encZ]; done) ?_ ?_|refine G9 (tO ?_) ?_ (by simp -implicitDefEqProofs only [qU,pure_encZ]; done) ?_ ?_|refine G9 (tP ?_) ?_ (by simp -implicitDefEqProofs only [qU,pure_encZ]; done) ?_ ?_|refine G9 (tQ ?_) ?_ (by simp -implicitDefEqProofs only [qU,pure_encZ]; done) ?_ ?_|refine G9 (tN) ?_ (by simp -implicitDefEqProofs only [qU,pures,H3,pure_encT,G6]; done) ?_ ?_|refine eK (d:=default) ?_ ?_|refine P0 (gI) ?_ ?_ ?_|refine ACV.of (gI) ?_ ?_ ?_|refine ACK.of (gI) ?_ ?_|simp -implicitDefEqProofs only [Mr,qA,bN,bD,bO,aJ,aP,qU,D1,D4,D5,D3,D0,D6,reduceIte,reduceCtorEq,qI,E2,E1,cL,E0,uL,qZ,qC,qT,fM,eX,fJ,M7,dV,P2,Q5,J4,J8,F4,F5,F1,nL,Fl, *]
        all_goals first
          | exact Wk.refl _
          | (refine Nat.le_of_eq_of_le ?_ (by assumption); done)
          | exact hb
          | omega
          | (exfalso; simp only [decide_eq_false_iff_not] at *; omega)
          | skip
    · have hp:iU s id=(s,kB (me s id)):=by unfold iU; rw [if_neg (by simp [hck]),if_neg (by omega),if_pos hr]
      rw [hp]
      unfold me at hr ⊢
      refine aI bP MV (by simp [Mr]) fun hw _=>?_
      clear hw hf hp
      repeat' with_reducible first|refine aQ (fun h=>?_) (fun h=>?_)|refine bB (fun h=>?_) (fun h=>?_)|refine aF (fun h=>?_) (fun h=>?_)|refine aH (fun h=>?_) (fun h=>?_)|refine FN ?_ ?_ ?_ ?_ rfl ?_|refine aR ?_ ?_|refine bC ?_ ?_|refine bM ?_ ?_|refine IA ?_ ?_ ?_|refine L1 ?_ ?_|refine L2 ?_ ?_|refine L3 ?_ ?_ ?_ ?_|refine L4 ?_ ?_|refine L5 ?_ ?_ ?_ ?_ ?_|refine L6 ?_ ?_ ?_ ?_ ?_|refine f9 bP Mg Em (by simp [uL]) ?_ (by simp -implicitDefEqProofs only [qA,bN,bD,bO,aJ,aP,qU,D1,D4,D5,D3,D0,D6,reduceIte,reduceCtorEq,qI,E2,E1,qZ,qM, *]; exact rfl) ?_ ?_ ?_ ?_|refine I2 bP Mh En ?_ ?_ ?_ ?_ ?_|refine IA ?_ ?_ ?_|refine Hf [(209,209)] ?_ ?_ ?_|refine G9 (jK ?_) ?_ (by simp -implicitDefEqProofs only [qU,pure_encZ]; done) ?_ ?_|refine G9 (lZ ?_) ?_ (by simp -implicitDefEqProofs only [qU,pure_encZ]; done) ?_ ?_|refine G9 (tO ?_) ?_ (by simp -implicitDefEqProofs only [qU,pure_encZ]; done) ?_ ?_|refine G9 (tP ?_) ?_ (by simp -implicitDefEqProofs only [qU,pure_encZ]; done) ?_ ?_|refine G9 (tQ ?_) ?_ (by simp -implicitDefEqProofs only [qU,pure_encZ]; done) ?_ ?_|refine G9 (tN) ?_ (by simp -implicitDefEqProofs only [qU,pures,H3,pure_encT,G6]; done) ?_ ?_|refine eK (d:=default) ?_ ?_|refine P0 (gI) ?_ ?_ ?_|refine ACV.of (gI) ?_ ?_ ?_|refine ACK.of (gI) ?_ ?_|simp -implicitDefEqProofs only [Mr,qA,bN,bD,bO,aJ,aP,qU,D1,D4,D5,D3,D0,D6,reduceIte,reduceCtorEq,qI,E2,E1,cL,E0,uL,qZ,qC,qT,fM,eX,fJ,M7,dV,P2,Q5,J4,J8,F4,F5,F1,nL,Fl, *]
      all_goals first
        | exact Wk.refl _
        | (refine Nat.le_of_eq_of_le ?_ (by assumption); done)
        | exact hb
        | omega
        | (exfalso; simp only [decide_eq_false_iff_not] at *; omega)
        | skip
  · by_cases hck:bZ s=true
    · have hid:id<0∨id≥s.threads.length:=by simp only [cN,hck,D9,decide_eq_true_eq,true_and] at hf; omega
      rw [show iU s id=(s,123) from by unfold iU; rw [if_neg (by simp [hck]),if_pos hid]]
      clear hf
      refine aI bP MV (by simp [Mr]) fun hw _=>?_
      clear hw
      repeat' with_reducible first|refine aQ (fun h=>?_) (fun h=>?_)|refine bB (fun h=>?_) (fun h=>?_)|refine aF (fun h=>?_) (fun h=>?_)|refine aH (fun h=>?_) (fun h=>?_)|refine FN ?_ ?_ ?_ ?_ rfl ?_|refine aR ?_ ?_|refine bC ?_ ?_|refine bM ?_ ?_|refine IA ?_ ?_ ?_|refine L1 ?_ ?_|refine L2 ?_ ?_|refine L3 ?_ ?_ ?_ ?_|refine L4 ?_ ?_|refine L5 ?_ ?_ ?_ ?_ ?_|refine L6 ?_ ?_ ?_ ?_ ?_|refine f9 bP Mg Em (by simp [uL]) ?_ (by simp -implicitDefEqProofs only [qA,bN,bD,bO,aJ,aP,qU,D1,D4,D5,D3,D0,D6,reduceIte,reduceCtorEq,qI,E2,E1,qZ,qM, *]; exact rfl) ?_ ?_ ?_ ?_|refine I2 bP Mh En ?_ ?_ ?_ ?_ ?_|refine IA ?_ ?_ ?_|refine Hf [(209,209)] ?_ ?_ ?_|refine G9 (jK ?_) ?_ (by simp -implicitDefEqProofs only [qU,pure_encZ]; done) ?_ ?_|refine G9 (lZ ?_) ?_ (by simp -implicitDefEqProofs only [qU,pure_encZ]; done) ?_ ?_|refine G9 (tO ?_) ?_ (by simp -implicitDefEqProofs only [qU,pure_encZ]; done) ?_ ?_|refine G9 (tP ?_) ?_ (by simp -implicitDefEqProofs only [qU,pure_encZ]; done) ?_ ?_|refine G9 (tQ ?_) ?_ (by simp -implicitDefEqProofs only [qU,pure_encZ]; done) ?_ ?_|refine G9 (tN) ?_ (by simp -implicitDefEqProofs only [qU,pures,H3,pure_encT,G6]; done) ?_ ?_|refine eK (d:=default) ?_ ?_|refine P0 (gI) ?_ ?_ ?_|refine ACV.of (gI) ?_ ?_ ?_|refine ACK.of (gI) ?_ ?_|simp -implicitDefEqProofs only [Mr,qA,bN,bD,bO,aJ,aP,qU,D1,D4,D5,D3,D0,D6,reduceIte,reduceCtorEq,qI,E2,E1,cL,E0,uL,qZ,qC,qT,fM,eX,fJ,M7,dV,P2,Q5,J4,J8,F4,F5,F1,nL,Fl, *]
      all_goals first
        | exact Wk.refl _
        | (refine Nat.le_of_eq_of_le ?_ (by assumption); done)
        | exact hb
        | omega
        | (exfalso; simp only [decide_eq_false_iff_not] at *; omega)
        | skip
    · rw [show iU s id=(s,20) from by unfold iU; rw [if_pos hck]]
      have hck:=Bool.not_eq_true _ ▸ hck
      clear hf
      refine aI bP MV (by simp [Mr]) fun hw _=>?_
      clear hw
      repeat' with_reducible first|refine aQ (fun h=>?_) (fun h=>?_)|refine bB (fun h=>?_) (fun h=>?_)|refine aF (fun h=>?_) (fun h=>?_)|refine aH (fun h=>?_) (fun h=>?_)|refine FN ?_ ?_ ?_ ?_ rfl ?_|refine aR ?_ ?_|refine bC ?_ ?_|refine bM ?_ ?_|refine IA ?_ ?_ ?_|refine L1 ?_ ?_|refine L2 ?_ ?_|refine L3 ?_ ?_ ?_ ?_|refine L4 ?_ ?_|refine L5 ?_ ?_ ?_ ?_ ?_|refine L6 ?_ ?_ ?_ ?_ ?_|refine f9 bP Mg Em (by simp [uL]) ?_ (by simp -implicitDefEqProofs only [qA,bN,bD,bO,aJ,aP,qU,D1,D4,D5,D3,D0,D6,reduceIte,reduceCtorEq,qI,E2,E1,qZ,qM, *]; exact rfl) ?_ ?_ ?_ ?_|refine I2 bP Mh En ?_ ?_ ?_ ?_ ?_|refine IA ?_ ?_ ?_|refine Hf [(209,209)] ?_ ?_ ?_|refine G9 (jK ?_) ?_ (by simp -implicitDefEqProofs only [qU,pure_encZ]; done) ?_ ?_|refine G9 (lZ ?_) ?_ (by simp -implicitDefEqProofs only [qU,pure_encZ]; done) ?_ ?_|refine G9 (tO ?_) ?_ (by simp -implicitDefEqProofs only [qU,pure_encZ]; done) ?_ ?_|refine G9 (tP ?_) ?_ (by simp -implicitDefEqProofs only [qU,pure_encZ]; done) ?_ ?_|refine G9 (tQ ?_) ?_ (by simp -implicitDefEqProofs only [qU,pure_encZ]; done) ?_ ?_|refine G9 (tN) ?_ (by simp -implicitDefEqProofs only [qU,pures,H3,pure_encT,G6]; done) ?_ ?_|refine eK (d:=default) ?_ ?_|refine P0 (gI) ?_ ?_ ?_|refine ACV.of (gI) ?_ ?_ ?_|refine ACK.of (gI) ?_ ?_|simp -implicitDefEqProofs only [Mr,qA,bN,bD,bO,aJ,aP,qU,D1,D4,D5,D3,D0,D6,reduceIte,reduceCtorEq,qI,E2,E1,cL,E0,uL,qZ,qC,qT,fM,eX,fJ,M7,dV,P2,Q5,J4,J8,F4,F5,F1,nL,Fl, *]
      all_goals first
        | exact Wk.refl _
        | (refine Nat.le_of_eq_of_le ?_ (by assumption); done)
        | exact hb
        | omega
        | (exfalso; simp only [decide_eq_false_iff_not] at *; omega)
        | skip

end Go.Sak
