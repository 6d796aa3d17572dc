/- Part T126 of the proofs about the program: Xh, K233. Conditions: none. -/
import Derived.Test.YtahdilehajdhgaaGreatT118
import Derived.Test.YtahdilehajdhgaaGreatT76
import Derived.Test.YtahdilehajdhgaaGreatT125
open Go.Sak.AC renaming n1→W6,p0→G9
open Int renaming natCast_zero→F1,reduceEq→F4,reduceNe→F5,toNat_natCast→E0
open List renaming reduceReplicate→D1,set→Z4
open Nat renaming reduceAdd→D4,reduceBEq→E1,reduceEqDiff→D0,reduceLT→E2,reduceLeDiff→D3,reduceMul→D6,reduceSub→D5
open Go.Proofs.Tryz renaming prog→D8
namespace Go.Sak
open Go Go.RowKit
set_option linter.unusedVariables false
def DO (w:Cal) (s:State):State×Int:=fN s w.th w.k w.v (IntKind.wrap .i64 (s.now+w.u))
def oW (s:State) (x:Cal):State×Int :=
  if lW x≠0 then (s,lW x) else if x.k=11 then ((jO s x.v).1,(jO s x.v).2.2) else if x.k=10 then iU s x.th else DO x s
end Go.Sak
namespace Go.Sak
open Go Go.RowKit Go.Proofs
set_option linter.unusedVariables false
set_option linter.unusedSimpArgs false
set_option maxRecDepth 10000
set_option maxHeartbeats 8000000
theorem KD {s:State} {id kind val untl:Int} (h:Bd s 100000000):cX D8 37 [.agg (bR s),.int .i64 id,.int .i64 kind,.int .i64 val,.int .i64 untl] (.tup [.agg (bR (fN s id kind val untl).1),.int .i64 (fN s id kind val untl).2],[],[]):=by
  obtain ⟨h1,h2,h3,h4,h5,h6,h7⟩:=h.all
  exact OC h1 h2 h3 h4 h5 h6 h7
def AU:AFn:=⟨19,(.seq (.reg [o1 2 (.box 102 0),o1 3 (.box 33 1),o1 4 (.alloc 33 [(.int .i64 0),(.int .i64 0),(.int .i64 0),(.int .i64 0),(.int .i64 0),(.int .i64 0),(.bool false),(.int .i64 0),(.int .i64 0),(.int .i64 0),.slnil,.slnil,.slnil,(.int .i64 0),.slnil,(.int .i64 0),.slnil,(.int .i64 0),.slnil,.slnil]),o1 5 (.mv (ci 0))]) (.seq (.reg [o1 10 (.ld 20 true 3),o1 11 (.faddr 2 2),o1 12 (.ld 1 false 11),o1 13 (.call 16 [10,12]),o1 9 (.mv 13),o1 14 (.ext 9 0),o1 15 (.ext 9 1),o1 16 (.ext 9 2),o1 6 (.alloc 33 [(.int .i64 0),(.int .i64 0),(.int .i64 0),(.int .i64 0),(.int .i64 0),(.int .i64 0),(.bool false),(.int .i64 0),(.int .i64 0),(.int .i64 0),.slnil,.slnil,.slnil,(.int .i64 0),.slnil,(.int .i64 0),.slnil,(.int .i64 0),.slnil,.slnil]),o2 (.st 20 6 14),o1 7 (.mv 15),o1 8 (.mv 16)]) (.seq (.reg [o1 17 (.ld 20 true 6),o1 18 (.mv 8),o2 (.st 20 4 17),o1 5 (.mv 18)]) .ret))),[(4,some (20,true)),(5,none)]⟩
theorem RL:xf D8 107=some AU:=by kernel_rfl
theorem Ab {s:State} {k th v u:Int} (hb:Bd s 100000):cX D8 107 [.agg [.int .i64 k,.int .i64 th,.int .i64 v,.int .i64 u],.agg (bR s)] (.tup [.agg (bR (jO s v).1),.int .i64 (jO s v).2.2],[],[]):=by
  have hb8:Bd s 100000000:=hb.mono (by omega)
  refine aI bP RL (by simp [AU]) fun hw _=>?_
  clear hw
  repeat' with_reducible first|refine aQ (fun h=>?_) (fun h=>?_)|refine bB (fun h=>?_) (fun h=>?_)|refine aF (fun h=>?_) (fun h=>?_)|refine aH (fun h=>?_) (fun h=>?_)|refine FN ?_ ?_ ?_ ?_ rfl ?_|refine aR ?_ ?_|refine bC ?_ ?_|refine bM ?_ ?_|refine IA ?_ ?_ ?_|refine L1 ?_ ?_|refine L2 ?_ ?_|refine L3 ?_ ?_ ?_ ?_|refine L4 ?_ ?_|refine L5 ?_ ?_ ?_ ?_ ?_|refine L6 ?_ ?_ ?_ ?_ ?_|refine G9 (JV ?_) ?_ (by simp -implicitDefEqProofs only [qU,pure_encZ]; done) ?_ ?_|simp -implicitDefEqProofs only [AU,qA,bN,bD,bO,aP,qU,D1,D4,D5,D3,D0,D6,reduceIte,reduceCtorEq,qI,E2,E1,cL,E0,bH,qZ,gN,iJ,pC,F1,F4,F5, *]
  all_goals first
    | exact hb
    | exact hb8
    | exact Wk.refl _
    | omega
    | (exfalso; simp_all; done)
    | skip

def AW:AFn:=⟨12,(.seq (.reg [o1 2 (.box 102 0),o1 3 (.box 33 1),o1 4 (.alloc 33 [(.int .i64 0),(.int .i64 0),(.int .i64 0),(.int .i64 0),(.int .i64 0),(.int .i64 0),(.bool false),(.int .i64 0),(.int .i64 0),(.int .i64 0),.slnil,.slnil,.slnil,(.int .i64 0),.slnil,(.int .i64 0),.slnil,(.int .i64 0),.slnil,.slnil]),o1 5 (.mv (ci 0))]) (.seq (.reg [o1 6 (.ld 20 true 3),o1 7 (.faddr 1 2),o1 8 (.ld 1 false 7),o1 9 (.call 83 [6,8]),o1 10 (.ext 9 0),o1 11 (.ext 9 1),o2 (.st 20 4 10),o1 5 (.mv 11)]) .ret)),[(4,some (20,true)),(5,none)]⟩
theorem RN:xf D8 108=some AW:=by kernel_rfl
theorem Ac {s:State} {k th v u:Int} (hb:Bd s 100000):cX D8 108 [.agg [.int .i64 k,.int .i64 th,.int .i64 v,.int .i64 u],.agg (bR s)] (.tup [.agg (bR (iU s th).1),.int .i64 (iU s th).2],[],[]):=by
  have hb8:Bd s 100000000:=hb.mono (by omega)
  refine aI bP RN (by simp [AW]) fun hw _=>?_
  clear hw
  repeat' with_reducible first|refine aQ (fun h=>?_) (fun h=>?_)|refine bB (fun h=>?_) (fun h=>?_)|refine aF (fun h=>?_) (fun h=>?_)|refine aH (fun h=>?_) (fun h=>?_)|refine FN ?_ ?_ ?_ ?_ rfl ?_|refine aR ?_ ?_|refine bC ?_ ?_|refine bM ?_ ?_|refine IA ?_ ?_ ?_|refine L1 ?_ ?_|refine L2 ?_ ?_|refine L3 ?_ ?_ ?_ ?_|refine L4 ?_ ?_|refine L5 ?_ ?_ ?_ ?_ ?_|refine L6 ?_ ?_ ?_ ?_ ?_|refine G9 (KK ?_) ?_ (by simp -implicitDefEqProofs only [qU,pure_encZ]; done) ?_ ?_|simp -implicitDefEqProofs only [AW,qA,bN,bD,bO,aP,qU,D1,D4,D5,D3,D0,D6,reduceIte,reduceCtorEq,qI,E2,E1,cL,E0,bH,qZ,gN,iJ,pC,F1,F4,F5, *]
  all_goals first
    | exact hb
    | exact hb8
    | exact Wk.refl _
    | omega
    | (exfalso; simp_all; done)
    | skip

def US:AFn:=⟨21,(.seq (.reg [o1 2 (.box 102 0),o1 3 (.box 33 1),o1 4 (.alloc 33 [(.int .i64 0),(.int .i64 0),(.int .i64 0),(.int .i64 0),(.int .i64 0),(.int .i64 0),(.bool false),(.int .i64 0),(.int .i64 0),(.int .i64 0),.slnil,.slnil,.slnil,(.int .i64 0),.slnil,(.int .i64 0),.slnil,(.int .i64 0),.slnil,.slnil]),o1 5 (.mv (ci 0))]) (.seq (.reg [o1 6 (.ld 20 true 3),o1 7 (.faddr 1 2),o1 8 (.ld 1 false 7),o1 9 (.faddr 0 2),o1 10 (.ld 1 false 9),o1 11 (.faddr 2 2),o1 12 (.ld 1 false 11),o1 13 (.faddr 17 3),o1 14 (.ld 1 false 13),o1 15 (.faddr 3 2),o1 16 (.ld 1 false 15),o1 17 (.bin .add 14 16),o1 18 (.call 37 [6,8,10,12,17]),o1 19 (.ext 18 0),o1 20 (.ext 18 1),o2 (.st 20 4 19),o1 5 (.mv 20)]) .ret)),[(4,some (20,true)),(5,none)]⟩
theorem YV:xf D8 61=some US:=by kernel_rfl
theorem Fz {s:State} {k th v u:Int} (hb:Bd s 100000):cX D8 61 [.agg [.int .i64 k,.int .i64 th,.int .i64 v,.int .i64 u],.agg (bR s)] (.tup [.agg (bR (DO ⟨k,th,v,u⟩ s).1),.int .i64 (DO ⟨k,th,v,u⟩ s).2],[],[]):=by
  have hb8:Bd s 100000000:=hb.mono (by omega)
  refine aI bP YV (by simp [US]) fun hw _=>?_
  clear hw
  repeat' with_reducible first|refine aQ (fun h=>?_) (fun h=>?_)|refine bB (fun h=>?_) (fun h=>?_)|refine aF (fun h=>?_) (fun h=>?_)|refine aH (fun h=>?_) (fun h=>?_)|refine FN ?_ ?_ ?_ ?_ rfl ?_|refine aR ?_ ?_|refine bC ?_ ?_|refine bM ?_ ?_|refine IA ?_ ?_ ?_|refine L1 ?_ ?_|refine L2 ?_ ?_|refine L3 ?_ ?_ ?_ ?_|refine L4 ?_ ?_|refine L5 ?_ ?_ ?_ ?_ ?_|refine L6 ?_ ?_ ?_ ?_ ?_|refine G9 (KD ?_) ?_ (by simp -implicitDefEqProofs only [qU,pure_encZ]; done) ?_ ?_|simp -implicitDefEqProofs only [US,qA,bN,bD,bO,aP,qU,D1,D4,D5,D3,D0,D6,reduceIte,reduceCtorEq,qI,E2,E1,cL,E0,bH,qZ,gN,iJ,pC,F1,F4,F5, *]
  all_goals first
    | exact hb
    | exact hb8
    | exact Wk.refl _
    | omega
    | (exfalso; simp_all; done)
    | skip

def AK:AFn:=⟨31,(.seq (.reg [o1 2 (.box 33 0),o1 3 (.box 54 1),o1 4 (.alloc 33 [(.int .i64 0),(.int .i64 0),(.int .i64 0),(.int .i64 0),(.int .i64 0),(.int .i64 0),(.bool false),(.int .i64 0),(.int .i64 0),(.int .i64 0),.slnil,.slnil,.slnil,(.int .i64 0),.slnil,(.int .i64 0),.slnil,(.int .i64 0),.slnil,.slnil]),o1 5 (.mv (ci 0))]) (.seq (.seq (.reg [o1 9 (.ld 4 true 3),o1 10 (.call 27 [9]),o1 6 (.mv 10)]) (.seq (.reg [o1 11 (.mv 6),o1 12 (.bin .neq 11 (ci 0))]) (.cond 12 (.seq (.reg [o1 13 (.ld 20 true 2),o1 14 (.call 41 [13,(ci (-1))]),o1 15 (.mv 6),o2 (.st 20 4 14),o1 5 (.mv 15)]) .ret) .skip))) (.seq (.regT [o1 17 (.call 60 []),o1 18 (.faddr 0 3),o1 19 (.ld 1 false 18),o1 20 (.lkp .fnnil true 17 19),o1 16 (.mv 20),o1 21 (.ext 16 0),o1 22 (.ext 16 1),o1 7 (.mv 21),o1 8 (.mv 22)] [(0,1),(0,2)]) (.seq (.seq (.reg [o1 23 (.mv 8),o1 24 (.not 23)]) (.cond 24 (.reg [o1 7 (.mv (.func 61))]) .skip)) (.seq (.reg [o1 25 (.mv 7),o1 26 (.ld 4 true 3),o1 27 (.ld 20 true 2),o1 28 (.callv 25 [26,27]),o1 29 (.ext 28 0),o1 30 (.ext 28 1),o2 (.st 20 4 29),o1 5 (.mv 30)]) .ret))))),[(4,some (20,true)),(5,none)]⟩
theorem SW:xf D8 25=some AK:=by kernel_rfl
theorem oY {s:State} {k th v u:Int} (hb:Bd s 100000):cX D8 25 [.agg (bR s),.agg [.int .i64 k,.int .i64 th,.int .i64 v,.int .i64 u]] (.tup [.agg (bR (oW s ⟨k,th,v,u⟩).1),.int .i64 (oW s ⟨k,th,v,u⟩).2],[],[]):=by
  have hb8:Bd s 100000000:=hb.mono (by omega)
  by_cases hc:lW ⟨k,th,v,u⟩=0
  · have hc1:=decide_eq_true hc
    rcases Decidable.em (k=11) with h1 | h1
    · rw [show oW s ⟨k,th,v,u⟩=((jO s v).1,(jO s v).2.2) from by unfold oW; rw [if_neg (by simp [hc]),if_pos h1]]
      refine aI bP SW (by simp [AK]) fun hw _=>?_
      clear hw
      repeat' with_reducible first|refine aQ (fun h=>?_) (fun h=>?_)|refine bB (fun h=>?_) (fun h=>?_)|refine aF (fun h=>?_) (fun h=>?_)|refine aH (fun h=>?_) (fun h=>?_)|refine FN ?_ ?_ ?_ ?_ rfl ?_|refine aR ?_ ?_|refine bC ?_ ?_|refine bM ?_ ?_|refine IA ?_ ?_ ?_|refine L1 ?_ ?_|refine L2 ?_ ?_|refine L3 ?_ ?_ ?_ ?_|refine L4 ?_ ?_|refine L5 ?_ ?_ ?_ ?_ ?_|refine L6 ?_ ?_ ?_ ?_ ?_|refine W6 Bb ?_ (by simp [pures]; done) ?_|refine G9 Nh ?_ (by simp -implicitDefEqProofs only [qU,pure_encZ]; done) ?_ ?_|refine G9 (Ab ?_) ?_ (by simp -implicitDefEqProofs only [qU,pure_encZ]; done) ?_ ?_|refine G9 (Ac ?_) ?_ (by simp -implicitDefEqProofs only [qU,pure_encZ]; done) ?_ ?_|refine G9 (Fz ?_) ?_ (by simp -implicitDefEqProofs only [qU,pure_encZ]; done) ?_ ?_|refine G9 (lZ ?_) ?_ (by simp -implicitDefEqProofs only [qU,pure_encZ]; done) ?_ ?_|simp -implicitDefEqProofs only [AK,qA,bN,bD,bO,aP,qU,D1,D4,D5,D3,D0,D6,reduceIte,reduceCtorEq,qI,E2,E1,cL,E0,bH,qZ,gN,iJ,pC,F1,F4,F5,Cy,eX,fJ,fM,dV,AV.isInt,Z4, *]
      all_goals first
        | exact hb
        | exact hb8
        | exact Wk.refl _
        | omega
        | (exfalso; simp_all; done)
        | skip
    · have e1:(k=11)=False:=by simpa using h1
      rcases Decidable.em (k=10) with h2 | h2
      · rw [show oW s ⟨k,th,v,u⟩=iU s th from by unfold oW; rw [if_neg (by simp [hc]),if_neg h1,if_pos h2]]
        refine aI bP SW (by simp [AK]) fun hw _=>?_
        clear hw
        repeat' with_reducible first|refine aQ (fun h=>?_) (fun h=>?_)|refine bB (fun h=>?_) (fun h=>?_)|refine aF (fun h=>?_) (fun h=>?_)|refine aH (fun h=>?_) (fun h=>?_)|refine FN ?_ ?_ ?_ ?_ rfl ?_|refine aR ?_ ?_|refine bC ?_ ?_|refine bM ?_ ?_|refine IA ?_ ?_ ?_|refine L1 ?_ ?_|refine L2 ?_ ?_|refine L3 ?_ ?_ ?_ ?_|refine L4 ?_ ?_|refine L5 ?_ ?_ ?_ ?_ ?_|refine L6 ?_ ?_ ?_ ?_ ?_|refine W6 Bb ?_ (by simp [pures]; done) ?_|refine G9 Nh ?_ (by simp -implicitDefEqProofs only [qU,pure_encZ]; done) ?_ ?_|refine G9 (Ab ?_) ?_ (by simp -implicitDefEqProofs only [qU,pure_encZ]; done) ?_ ?_|refine G9 (Ac ?_) ?_ (by simp -implicitDefEqProofs only [qU,pure_encZ]; done) ?_ ?_|refine G9 (Fz ?_) ?_ (by simp -implicitDefEqProofs only [qU,pure_encZ]; done) ?_ ?_|refine G9 (lZ ?_) ?_ (by simp -implicitDefEqProofs only [qU,pure_encZ]; done) ?_ ?_|simp -implicitDefEqProofs only [AK,qA,bN,bD,bO,aP,qU,D1,D4,D5,D3,D0,D6,reduceIte,reduceCtorEq,qI,E2,E1,cL,E0,bH,qZ,gN,iJ,pC,F1,F4,F5,Cy,eX,fJ,fM,dV,AV.isInt,Z4, *]
        all_goals first
          | exact hb
          | exact hb8
          | exact Wk.refl _
          | omega
          | (exfalso; simp_all; done)
          | skip
      · have e2:(k=10)=False:=by simpa using h2
        rw [show oW s ⟨k,th,v,u⟩=DO ⟨k,th,v,u⟩ s from by unfold oW; rw [if_neg (by simp [hc]),if_neg h1,if_neg h2]]
        refine aI bP SW (by simp [AK]) fun hw _=>?_
        clear hw
        repeat' with_reducible first|refine aQ (fun h=>?_) (fun h=>?_)|refine bB (fun h=>?_) (fun h=>?_)|refine aF (fun h=>?_) (fun h=>?_)|refine aH (fun h=>?_) (fun h=>?_)|refine FN ?_ ?_ ?_ ?_ rfl ?_|refine aR ?_ ?_|refine bC ?_ ?_|refine bM ?_ ?_|refine IA ?_ ?_ ?_|refine L1 ?_ ?_|refine L2 ?_ ?_|refine L3 ?_ ?_ ?_ ?_|refine L4 ?_ ?_|refine L5 ?_ ?_ ?_ ?_ ?_|refine L6 ?_ ?_ ?_ ?_ ?_|refine W6 Bb ?_ (by simp [pures]; done) ?_|refine G9 Nh ?_ (by simp -implicitDefEqProofs only [qU,pure_encZ]; done) ?_ ?_|refine G9 (Ab ?_) ?_ (by simp -implicitDefEqProofs only [qU,pure_encZ]; done) ?_ ?_|refine G9 (Ac ?_) ?_ (by simp -implicitDefEqProofs only [qU,pure_encZ]; done) ?_ ?_|refine G9 (Fz ?_) ?_ (by simp -implicitDefEqProofs only [qU,pure_encZ]; done) ?_ ?_|refine G9 (lZ ?_) ?_ (by simp -implicitDefEqProofs only [qU,pure_encZ]; done) ?_ ?_|simp -implicitDefEqProofs only [AK,qA,bN,bD,bO,aP,qU,D1,D4,D5,D3,D0,D6,reduceIte,reduceCtorEq,qI,E2,E1,cL,E0,bH,qZ,gN,iJ,pC,F1,F4,F5,Cy,eX,fJ,fM,dV,AV.isInt,Z4, *]
        all_goals first
          | exact hb
          | exact hb8
          | exact Wk.refl _
          | omega
          | (exfalso; simp_all; done)
          | skip
  · rw [show oW s ⟨k,th,v,u⟩=(s,lW ⟨k,th,v,u⟩) from by unfold oW; rw [if_pos hc]]
    have hc':(lW ⟨k,th,v,u⟩=0)=False:=by simpa using hc
    clear hc
    refine aI bP SW (by simp [AK]) fun hw _=>?_
    clear hw
    repeat' with_reducible first|refine aQ (fun h=>?_) (fun h=>?_)|refine bB (fun h=>?_) (fun h=>?_)|refine aF (fun h=>?_) (fun h=>?_)|refine aH (fun h=>?_) (fun h=>?_)|refine FN ?_ ?_ ?_ ?_ rfl ?_|refine aR ?_ ?_|refine bC ?_ ?_|refine bM ?_ ?_|refine IA ?_ ?_ ?_|refine L1 ?_ ?_|refine L2 ?_ ?_|refine L3 ?_ ?_ ?_ ?_|refine L4 ?_ ?_|refine L5 ?_ ?_ ?_ ?_ ?_|refine L6 ?_ ?_ ?_ ?_ ?_|refine W6 Bb ?_ (by simp [pures]; done) ?_|refine G9 Nh ?_ (by simp -implicitDefEqProofs only [qU,pure_encZ]; done) ?_ ?_|refine G9 (Ab ?_) ?_ (by simp -implicitDefEqProofs only [qU,pure_encZ]; done) ?_ ?_|refine G9 (Ac ?_) ?_ (by simp -implicitDefEqProofs only [qU,pure_encZ]; done) ?_ ?_|refine G9 (Fz ?_) ?_ (by simp -implicitDefEqProofs only [qU,pure_encZ]; done) ?_ ?_|refine G9 (lZ ?_) ?_ (by simp -implicitDefEqProofs only [qU,pure_encZ]; done) ?_ ?_|simp -implicitDefEqProofs only [AK,qA,bN,bD,bO,aP,qU,D1,D4,D5,D3,D0,D6,reduceIte,reduceCtorEq,qI,E2,E1,cL,E0,bH,qZ,gN,iJ,pC,F1,F4,F5,Cy,eX,fJ,fM,dV,AV.isInt,Z4, *]
    all_goals first
      | exact hb
      | exact hb8
      | exact Wk.refl _
      | omega
      | (exfalso; simp_all; done)
      | skip

end Go.Sak
