/- Part T131 of the proofs about the program: K237. Conditions: none. -/
import Derived.Test.YtahdilehajdhgaaGreatT130
open Go.Sak.AC renaming p0→H0
open Go.Sak.ACV renaming of→F3
open Int renaming natCast_zero→F2,reduceEq→F5,reduceNe→F6,toNat_natCast→E1
open List renaming reduceReplicate→D2
open Nat renaming reduceAdd→D5,reduceBEq→E2,reduceEqDiff→D1,reduceLT→E3,reduceLeDiff→D4,reduceMul→D7,reduceSub→D6
open Go.Sak.Wk renaming of_eq→H3,refl→G4
namespace Go.Sak
open Go Go.RowKit Go.Proofs
set_option linter.unusedVariables false
set_option linter.unusedSimpArgs false
set_option maxRecDepth 10000
set_option maxHeartbeats 8000000
def AK:AFn:=⟨100,(.seq (.reg [o1 2 (.box 33 0),o1 3 (.box 54 1),o1 4 (.mv (.const (.bool false)))]) (.seq (.reg [o1 10 (.call 22 []),o1 5 (.mv 10)]) (.seq (.seq (.reg [o1 11 (.ld 20 true 2),o1 12 (.call 15 [11]),o1 13 (.not 12)]) (.cond 13 (.seq (.reg [o1 14 (.mv 5),o1 4 (.mv 14)]) .ret) .skip)) (.seq (.reg [o1 16 (.ld 20 true 2),o1 17 (.ld 4 true 3),o1 18 (.call 25 [16,17]),o1 15 (.mv 18),o1 19 (.ext 15 0),o1 20 (.ext 15 1),o1 6 (.alloc 33 [(.int .i64 0),(.int .i64 0),(.int .i64 0),(.int .i64 0),(.int .i64 0),(.int .i64 0),(.bool false),(.int .i64 0),(.int .i64 0),(.int .i64 0),.slnil,.slnil,.slnil,(.int .i64 0),.slnil,(.int .i64 0),.slnil,(.int .i64 0),.slnil,.slnil]),o2 (.st 20 6 19),o1 7 (.mv 20)]) (.seq (.seq (.reg [o1 21 (.mv 7),o1 22 (.bin .neq 21 (ci 0)),o1 23 (.mv 22),o4 24 (.faddr 0 3) 23,o4 25 (.ld 1 false 24) 23,o4 26 (.bin .eql 25 (ci 10)) 23,o1 27 (.pick 23 (.const (.bool true)) 26)]) (.cond 27 (.seq (.reg [o1 28 (.mv 5),o1 4 (.mv 28)]) .ret) .skip)) (.seq (.reg [o1 8 (.mv (ci 0))]) (.seq (.seq (.reg [o1 9 (.mv (ci 0))]) (.block 0 (.loop (.seq (.seq (.reg [o1 29 (.mv 9),o1 30 (.faddr 18 2),o1 31 (.ld 1 false 30),o1 32 (.len 31),o1 33 (.bin .lss 29 32),o1 34 (.mv 33),o3 35 (.mv 9) 34,o3 36 (.faddr 18 6) 34,o3 37 (.ld 1 false 36) 34,o3 38 (.len 37) 34,o3 39 (.bin .lss 35 38) 34,o1 40 (.pick 34 39 (.const (.bool false)))]) (.cond 40 .skip (.exit 0))) (.seq (.block 1 (.seq (.regT [o1 43 (.faddr 18 2),o1 44 (.ld 1 false 43),o1 45 (.mv 9),o1 46 (.iaddr 11 44 45),o1 47 (.ld 11 true 46),o1 48 (.faddr 18 6),o1 49 (.ld 1 false 48),o1 50 (.mv 9),o1 51 (.iaddr 11 49 50),o1 52 (.ld 11 true 51),o1 53 (.eqs true [(.int .i64),(.int .i64),(.int .i64),(.int .i64),(.int .i64),(.int .i64),(.int .i64),(.int .i64),.bool,(.int .i64),(.int .i64)] 47 52)] [(0,5),(1,5),(3,5),(4,5),(0,6),(1,6),(3,6),(4,6),(0,8),(1,8),(3,8),(4,8),(0,9),(1,9),(3,9),(4,9)]) (.cond 53 (.reg [o1 54 (.mv 8),o1 55 (.bin .add 54 (ci 1)),o1 8 (.mv 55)]) .skip))) (.reg [o1 41 (.mv 9),o1 42 (.bin .add 41 (ci 1)),o1 9 (.mv 42)])))))) (.seq (.reg [o1 56 (.mv 5),o1 57 (.mv 56),o3 58 (.faddr 19 6) 57,o3 59 (.ld 1 false 58) 57,o3 60 (.faddr 19 2) 57,o3 61 (.ld 1 false 60) 57,o3 62 (.call 31 [59,61]) 57,o1 63 (.pick 57 62 (.const (.bool false))),o1 64 (.mv 63),o3 65 (.faddr 7 6) 64,o3 66 (.ld 3 true 65) 64,o3 67 (.faddr 7 2) 64,o3 68 (.ld 3 true 67) 64,o3 69 (.eqs false [(.int .i64),(.int .i64),(.int .i64)] 66 68) 64,o1 70 (.pick 64 69 (.const (.bool false))),o1 71 (.mv 70),o3 72 (.faddr 11 6) 71,o3 73 (.ld 1 false 72) 71,o3 74 (.faddr 11 2) 71,o3 75 (.ld 1 false 74) 71,o3 76 (.call 19 [73,75]) 71,o1 77 (.pick 71 76 (.const (.bool false))),o1 78 (.mv 77),o3 79 (.faddr 12 6) 78,o3 80 (.ld 1 false 79) 78,o3 81 (.faddr 12 2) 78,o3 82 (.ld 1 false 81) 78,o3 83 (.call 19 [80,82]) 78,o1 84 (.pick 78 83 (.const (.bool false))),o1 85 (.mv 84),o3 86 (.faddr 0 3) 85,o3 87 (.ld 1 false 86) 85,o3 88 (.bin .eql 87 (ci 11)) 85,o3 89 (.mv 88) 85,o4 90 (.mv 8) 89,o4 91 (.bin .leq 90 (ci 1)) 89,o4 92 (.mv 91) 89,o3 93 (.ld 20 true 2) 92,o3 94 (.ld 20 true 6) 92,o3 95 (.call 30 [93,94]) 92,o3 96 (.bin .eql 95 (ci 0)) 92,o4 97 (.pick 92 96 (.const (.bool false))) 89,o3 98 (.pick 89 (.const (.bool true)) 97) 85,o1 99 (.pick 85 98 (.const (.bool false))),o1 4 (.mv 99)]) .ret)))))))),[(4,none)]⟩
theorem Hi:xf Tryz.prog 11=some AK:=by kernel_rfl
theorem NZ {s:State} {k th v u:Int} (hA:cX Tryz.prog 22 [] (.bool true,[],[])):cX Tryz.prog 11 [.agg (bR s),.agg [.int .i64 k,.int .i64 th,.int .i64 v,.int .i64 u]] (.bool true,[],[]):=by
  cases hf:HY s with
  | false =>
    refine aI bP Hi (by simp [AK]) fun hw _=>?_
    clear hw
    repeat' with_reducible first|refine aQ (fun h=>?_) (fun h=>?_)|refine bB (fun h=>?_) (fun h=>?_)|refine aF (fun h=>?_) (fun h=>?_)|refine aH (fun h=>?_) (fun h=>?_)|refine FN ?_ ?_ ?_ ?_ rfl ?_|refine aR ?_ ?_|refine bC ?_ ?_|refine bM ?_ ?_|refine IA ?_ ?_ ?_|refine L1 ?_ ?_|refine L2 ?_ ?_|refine L3 ?_ ?_ ?_ ?_|refine L4 ?_ ?_|refine L5 ?_ ?_ ?_ ?_ ?_|refine L6 ?_ ?_ ?_ ?_ ?_|refine H0 hA ?_ (by simp -implicitDefEqProofs only [qU,pure_encZ]; done) ?_ ?_|refine H0 (oY ) ?_ (by simp -implicitDefEqProofs only [qU,pure_encZ]; done) ?_ ?_|refine H0 (oZ ?_) ?_ (by simp -implicitDefEqProofs only [qU,pure_encZ]; done) ?_ ?_|refine H0 (uH ?_ ?_) ?_ (by simp -implicitDefEqProofs only [qU,pure_encZ]; done) ?_ ?_|refine H0 (pJ ?_) ?_ (by simp -implicitDefEqProofs only [qU,pure_encZ]; done) ?_ ?_|refine H0 (mZ ?_) ?_ (by simp -implicitDefEqProofs only [qU,pure_encZ]; done) ?_ ?_|refine F3 (pJ ?_) ?_ ?_ ?_|refine F3 (mZ ?_) ?_ ?_ ?_|refine eK (d:=default) ?_ ?_|refine gW [] [(2,2),(3,3),(4,4)] (i+1,((sF s.threads A.threads (i+1):Nat):Int)) ?_ ?_ ?_ ?_ ?_ ?_|simp -implicitDefEqProofs only [AK,qA,bN,bD,bO,aP,qU,D2,D5,D6,D4,D1,D7,reduceIte,reduceCtorEq,qI,E3,E2,cL,E1,qZ,dI,dJ,gO,iK,qC,qT,qK,oH,Dz,nG,wC,F2,F5,F6,bS,cJ,cY, *]
    all_goals first
      | exact G4 _
      | (refine H3 ?_; simp; done)
      | omega
      | skip
  | true =>
  have hb8:=Eg (k:=100000000) hf (by omega)
  have hb7:=Eg (k:=10000000) hf (by omega)
  have hb5:=Eg (k:=100000) hf (by omega)
  have hT5:=hb5.all
  have hba:Bd (oX s ⟨k,th,v,u⟩).1 (200+1):=HX (Lm hf)
  have hba8:Bd (oX s ⟨k,th,v,u⟩).1 100000000:=hba.mono (by omega)
  have hba7:Bd (oX s ⟨k,th,v,u⟩).1 10000000:=hba.mono (by omega)
  have hTa:=hba8.all
  clear hba
  by_cases hk:k=10
  · refine aI bP Hi (by simp [AK]) fun hw _=>?_
    clear hw
    repeat' with_reducible first|refine aQ (fun h=>?_) (fun h=>?_)|refine bB (fun h=>?_) (fun h=>?_)|refine aF (fun h=>?_) (fun h=>?_)|refine aH (fun h=>?_) (fun h=>?_)|refine FN ?_ ?_ ?_ ?_ rfl ?_|refine aR ?_ ?_|refine bC ?_ ?_|refine bM ?_ ?_|refine IA ?_ ?_ ?_|refine L1 ?_ ?_|refine L2 ?_ ?_|refine L3 ?_ ?_ ?_ ?_|refine L4 ?_ ?_|refine L5 ?_ ?_ ?_ ?_ ?_|refine L6 ?_ ?_ ?_ ?_ ?_|refine H0 hA ?_ (by simp -implicitDefEqProofs only [qU,pure_encZ]; done) ?_ ?_|refine H0 (oY ) ?_ (by simp -implicitDefEqProofs only [qU,pure_encZ]; done) ?_ ?_|refine H0 (oZ ?_) ?_ (by simp -implicitDefEqProofs only [qU,pure_encZ]; done) ?_ ?_|refine H0 (uH ?_ ?_) ?_ (by simp -implicitDefEqProofs only [qU,pure_encZ]; done) ?_ ?_|refine H0 (pJ ?_) ?_ (by simp -implicitDefEqProofs only [qU,pure_encZ]; done) ?_ ?_|refine H0 (mZ ?_) ?_ (by simp -implicitDefEqProofs only [qU,pure_encZ]; done) ?_ ?_|refine F3 (pJ ?_) ?_ ?_ ?_|refine F3 (mZ ?_) ?_ ?_ ?_|refine eK (d:=default) ?_ ?_|refine gW [] [(2,2),(3,3),(4,4)] (i+1,((sF s.threads A.threads (i+1):Nat):Int)) ?_ ?_ ?_ ?_ ?_ ?_|simp -implicitDefEqProofs only [AK,qA,bN,bD,bO,aP,qU,D2,D5,D6,D4,D1,D7,reduceIte,reduceCtorEq,qI,E3,E2,cL,E1,qZ,dI,dJ,gO,iK,qC,qT,qK,oH,Dz,nG,wC,F2,F5,F6,bS,cJ,cY, *]
    all_goals first
      | exact G4 _
      | (refine H3 ?_; simp; done)
      | omega
      | skip
  by_cases he:(oX s ⟨k,th,v,u⟩).2=0
  · obtain ⟨g1,g2,g3,g4,g5,g6⟩:=Wl he hk
    generalize hAA:(oX s ⟨k,th,v,u⟩).1=A at *
    have hO:∀ i:Nat,k=11∨(sF s.threads A.threads i≤1∧fY s A=0):=fun i=>by
      rcases g6 with h | ⟨h1,h2⟩
      · exact .inl h
      · exact .inr ⟨h1 i,h2⟩
    clear g6
    have hk10:(k=10)=False:=by simpa using hk
    refine aI bP Hi (by simp [AK]) fun hw _=>?_
    clear hw
    repeat' with_reducible first|refine aQ (fun h=>?_) (fun h=>?_)|refine bB (fun h=>?_) (fun h=>?_)|refine aF (fun h=>?_) (fun h=>?_)|refine aH (fun h=>?_) (fun h=>?_)|refine FN ?_ ?_ ?_ ?_ rfl ?_|refine aR ?_ ?_|refine bC ?_ ?_|refine bM ?_ ?_|refine IA ?_ ?_ ?_|refine L1 ?_ ?_|refine L2 ?_ ?_|refine L3 ?_ ?_ ?_ ?_|refine L4 ?_ ?_|refine L5 ?_ ?_ ?_ ?_ ?_|refine L6 ?_ ?_ ?_ ?_ ?_|refine H0 hA ?_ (by simp -implicitDefEqProofs only [qU,pure_encZ]; done) ?_ ?_|refine H0 (oY ) ?_ (by simp -implicitDefEqProofs only [qU,pure_encZ]; done) ?_ ?_|refine H0 (oZ ?_) ?_ (by simp -implicitDefEqProofs only [qU,pure_encZ]; done) ?_ ?_|refine H0 (uH ?_ ?_) ?_ (by simp -implicitDefEqProofs only [qU,pure_encZ]; done) ?_ ?_|refine H0 (pJ ?_) ?_ (by simp -implicitDefEqProofs only [qU,pure_encZ]; done) ?_ ?_|refine H0 (mZ ?_) ?_ (by simp -implicitDefEqProofs only [qU,pure_encZ]; done) ?_ ?_|refine F3 (pJ ?_) ?_ ?_ ?_|refine F3 (mZ ?_) ?_ ?_ ?_|refine eK (d:=default) ?_ ?_|refine gW [] [(2,2),(3,3),(4,4)] (i+1,((sF s.threads A.threads (i+1):Nat):Int)) ?_ ?_ ?_ ?_ ?_ ?_|simp -implicitDefEqProofs only [AK,qA,bN,bD,bO,aP,qU,D2,D5,D6,D4,D1,D7,reduceIte,reduceCtorEq,qI,E3,E2,cL,E1,qZ,dI,dJ,gO,iK,qC,qT,qK,oH,Dz,nG,wC,F2,F5,F6,bS,cJ,cY, *]
    all_goals first
      | exact hb5
      | exact hb8
      | omega
      | refine oO 6 (fun t:Nat×Int=>nl 2 (some (.ptr 2 0 0) :: some (.ptr 3 0 0) :: nl 1 (some (.bool true) :: some (.ptr 4 0 0) :: some (.int .i64 0) :: some (.int .i64 t.2) :: some (.int .i64 t.1) :: nl 90 []))) (fun _=>[(2,.rows 33 20 [bR s]),(3,.rows 54 4 [[.int .i64 k,.int .i64 th,.int .i64 v,.int .i64 u]]),(4,.rows 33 20 [bR A])]) (fun t=>t.1≤s.threads.length∧t.2=(sF s.threads A.threads t.1:Nat)) (fun t=>s.threads.length - t.1) [] [(1,2),(17,3),(225,4)] (0,0) (by omega) ?_ ?_ ?_ ?_ ?_ ?_
      | exact G4 _
      | skip
    rotate_right
    · rintro ⟨i,c⟩ ⟨hi,hJ⟩
      simp only [] at hi hJ
      have hc:=Nc s.threads A.threads i
      have hc0:0≤c∧c≤1000000 * 100:=by omega
      have w1:=MI (c:=c) (by omega)
      have w2:IntKind.wrap .i64 ((i:Int)+1)=((i+1:Nat):Int):=bL (by omega) (by omega)
      have hJ2:∀ k:Nat,k=i→c=(sF s.threads A.threads k:Nat):=fun k e=>by rw [e]; exact hJ
      clear hJ
      simp only [dL,dK,all_nil,dI,dJ]
      intros
      repeat' with_reducible first|refine aQ (fun h=>?_) (fun h=>?_)|refine bB (fun h=>?_) (fun h=>?_)|refine aF (fun h=>?_) (fun h=>?_)|refine aH (fun h=>?_) (fun h=>?_)|refine FN ?_ ?_ ?_ ?_ rfl ?_|refine aR ?_ ?_|refine bC ?_ ?_|refine bM ?_ ?_|refine IA ?_ ?_ ?_|refine L1 ?_ ?_|refine L2 ?_ ?_|refine L3 ?_ ?_ ?_ ?_|refine L4 ?_ ?_|refine L5 ?_ ?_ ?_ ?_ ?_|refine L6 ?_ ?_ ?_ ?_ ?_|refine H0 hA ?_ (by simp -implicitDefEqProofs only [qU,pure_encZ]; done) ?_ ?_|refine H0 (oY ) ?_ (by simp -implicitDefEqProofs only [qU,pure_encZ]; done) ?_ ?_|refine H0 (oZ ?_) ?_ (by simp -implicitDefEqProofs only [qU,pure_encZ]; done) ?_ ?_|refine H0 (uH ?_ ?_) ?_ (by simp -implicitDefEqProofs only [qU,pure_encZ]; done) ?_ ?_|refine H0 (pJ ?_) ?_ (by simp -implicitDefEqProofs only [qU,pure_encZ]; done) ?_ ?_|refine H0 (mZ ?_) ?_ (by simp -implicitDefEqProofs only [qU,pure_encZ]; done) ?_ ?_|refine F3 (pJ ?_) ?_ ?_ ?_|refine F3 (mZ ?_) ?_ ?_ ?_|refine eK (d:=default) ?_ ?_|refine gW [] [(2,2),(3,3),(4,4)] (i+1,((sF s.threads A.threads (i+1):Nat):Int)) ?_ ?_ ?_ ?_ ?_ ?_|simp -implicitDefEqProofs only [AK,qA,bN,bD,bO,aP,qU,D2,D5,D6,D4,D1,D7,reduceIte,reduceCtorEq,qI,E3,E2,cL,E1,qZ,dI,dJ,gO,iK,qC,qT,qK,oH,Dz,nG,wC,F2,F5,F6,bS,cJ,cY, *]
      all_goals first
        | exact hb5
        | exact hb8
        | exact hb7
        | exact hba8
        | exact hba7
        | exact G4 _
        | (refine H3 ?_; simp; done)
        | omega
        | (clear hJ2 hO
           simp only [decide_eq_true_eq,decide_eq_false_iff_not] at *
           simp only [sF, *,if_true,if_false,reduceIte,Nat.add_zero]
           first | done | (rw [bL (by omega) (by omega)]; omega) | omega)
        | (have hJ:=hJ2 i rfl
           have h1:=hO i
           simp only [decide_eq_true_eq,decide_eq_false_iff_not] at *
           first
           | omega
           | (refine H3 ?_; simp [*]; done)
           | (refine H3 ?_; simp [*]; omega))
        | skip
    all_goals first
      | omega
      | (simp -implicitDefEqProofs only [qA,bN,bD,bO,aJ,aP,qU,D2,D5,D6,D4,D1,D7,reduceIte,reduceCtorEq,qI,E3,E2,qZ,dI,dJ,qC]; first | done | (simp; done))
      | exact ⟨Nat.zero_le _,by simp [sF]⟩
      | skip

  · have hs:=Gj he
    refine aI bP Hi (by simp [AK]) fun hw _=>?_
    clear hw
    repeat' with_reducible first|refine aQ (fun h=>?_) (fun h=>?_)|refine bB (fun h=>?_) (fun h=>?_)|refine aF (fun h=>?_) (fun h=>?_)|refine aH (fun h=>?_) (fun h=>?_)|refine FN ?_ ?_ ?_ ?_ rfl ?_|refine aR ?_ ?_|refine bC ?_ ?_|refine bM ?_ ?_|refine IA ?_ ?_ ?_|refine L1 ?_ ?_|refine L2 ?_ ?_|refine L3 ?_ ?_ ?_ ?_|refine L4 ?_ ?_|refine L5 ?_ ?_ ?_ ?_ ?_|refine L6 ?_ ?_ ?_ ?_ ?_|refine H0 hA ?_ (by simp -implicitDefEqProofs only [qU,pure_encZ]; done) ?_ ?_|refine H0 (oY ) ?_ (by simp -implicitDefEqProofs only [qU,pure_encZ]; done) ?_ ?_|refine H0 (oZ ?_) ?_ (by simp -implicitDefEqProofs only [qU,pure_encZ]; done) ?_ ?_|refine H0 (uH ?_ ?_) ?_ (by simp -implicitDefEqProofs only [qU,pure_encZ]; done) ?_ ?_|refine H0 (pJ ?_) ?_ (by simp -implicitDefEqProofs only [qU,pure_encZ]; done) ?_ ?_|refine H0 (mZ ?_) ?_ (by simp -implicitDefEqProofs only [qU,pure_encZ]; done) ?_ ?_|refine F3 (pJ ?_) ?_ ?_ ?_|refine F3 (mZ ?_) ?_ ?_ ?_|refine eK (d:=default) ?_ ?_|refine gW [] [(2,2),(3,3),(4,4)] (i+1,((sF s.threads A.threads (i+1):Nat):Int)) ?_ ?_ ?_ ?_ ?_ ?_|simp -implicitDefEqProofs only [AK,qA,bN,bD,bO,aP,qU,D2,D5,D6,D4,D1,D7,reduceIte,reduceCtorEq,qI,E3,E2,cL,E1,qZ,dI,dJ,gO,iK,qC,qT,qK,oH,Dz,nG,wC,F2,F5,F6,bS,cJ,cY, *]
    all_goals first
      | exact G4 _
      | (refine H3 ?_; simp; done)
      | omega
      | skip

end Go.Sak
