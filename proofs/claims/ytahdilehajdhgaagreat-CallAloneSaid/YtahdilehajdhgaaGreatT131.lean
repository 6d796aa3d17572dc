/- Part T131 of the proofs about the program: K237. Conditions: none. -/
import Derived.Test.YtahdilehajdhgaaGreatT130
open Go.Sak.AC renaming p0→G9
open Go.Sak.ACV renaming of→F2
open Int renaming natCast_zero→F1,reduceEq→F4,reduceNe→F5,toNat_natCast→E0
open List renaming reduceReplicate→D1
open Nat renaming reduceAdd→D4,reduceBEq→E1,reduceEqDiff→D0,reduceLT→E2,reduceLeDiff→D3,reduceMul→D6,reduceSub→D5
open Go.Sak.Wk renaming of_eq→H2,refl→G3
namespace Go.Sak
open Go Go.RowKit Go.Proofs
set_option linter.unusedVariables false
set_option linter.unusedSimpArgs false
set_option maxRecDepth 10000
set_option maxHeartbeats 8000000
def AJ:AFn:=⟨100,(.seq (.reg [o1 2 (.box 33 0),o1 3 (.box 54 1),o1 4 (.mv (.const (.bool false)))]) (.seq (.reg [o1 10 (.call 22 []),o1 5 (.mv 10)]) (.seq (.seq (.reg [o1 11 (.ld 20 true 2),o1 12 (.call 15 [11]),o1 13 (.not 12)]) (.cond 13 (.seq (.reg [o1 14 (.mv 5),o1 4 (.mv 14)]) .ret) .skip)) (.seq (.reg [o1 16 (.ld 20 true 2),o1 17 (.ld 4 true 3),o1 18 (.call 25 [16,17]),o1 15 (.mv 18),o1 19 (.ext 15 0),o1 20 (.ext 15 1),o1 6 (.alloc 33 [(.int .i64 0),(.int .i64 0),(.int .i64 0),(.int .i64 0),(.int .i64 0),(.int .i64 0),(.bool false),(.int .i64 0),(.int .i64 0),(.int .i64 0),.slnil,.slnil,.slnil,(.int .i64 0),.slnil,(.int .i64 0),.slnil,(.int .i64 0),.slnil,.slnil]),o2 (.st 20 6 19),o1 7 (.mv 20)]) (.seq (.seq (.reg [o1 21 (.mv 7),o1 22 (.bin .neq 21 (ci 0)),o1 23 (.mv 22),o4 24 (.faddr 0 3) 23,o4 25 (.ld 1 false 24) 23,o4 26 (.bin .eql 25 (ci 10)) 23,o1 27 (.pick 23 (.const (.bool true)) 26)]) (.cond 27 (.seq (.reg [o1 28 (.mv 5),o1 4 (.mv 28)]) .ret) .skip)) (.seq (.reg [o1 8 (.mv (ci 0))]) (.seq (.seq (.reg [o1 9 (.mv (ci 0))]) (.block 0 (.loop (.seq (.seq (.reg [o1 29 (.mv 9),o1 30 (.faddr 18 2),o1 31 (.ld 1 false 30),o1 32 (.len 31),o1 33 (.bin .lss 29 32),o1 34 (.mv 33),o3 35 (.mv 9) 34,o3 36 (.faddr 18 6) 34,o3 37 (.ld 1 false 36) 34,o3 38 (.len 37) 34,o3 39 (.bin .lss 35 38) 34,o1 40 (.pick 34 39 (.const (.bool false)))]) (.cond 40 .skip (.exit 0))) (.seq (.block 1 (.seq (.regT [o1 43 (.faddr 18 2),o1 44 (.ld 1 false 43),o1 45 (.mv 9),o1 46 (.iaddr 11 44 45),o1 47 (.ld 11 true 46),o1 48 (.faddr 18 6),o1 49 (.ld 1 false 48),o1 50 (.mv 9),o1 51 (.iaddr 11 49 50),o1 52 (.ld 11 true 51),o1 53 (.eqs true [(.int .i64),(.int .i64),(.int .i64),(.int .i64),(.int .i64),(.int .i64),(.int .i64),(.int .i64),.bool,(.int .i64),(.int .i64)] 47 52)] [(0,5),(1,5),(3,5),(4,5),(0,6),(1,6),(3,6),(4,6),(0,8),(1,8),(3,8),(4,8),(0,9),(1,9),(3,9),(4,9)]) (.cond 53 (.reg [o1 54 (.mv 8),o1 55 (.bin .add 54 (ci 1)),o1 8 (.mv 55)]) .skip))) (.reg [o1 41 (.mv 9),o1 42 (.bin .add 41 (ci 1)),o1 9 (.mv 42)])))))) (.seq (.reg [o1 56 (.mv 5),o1 57 (.mv 56),o3 58 (.faddr 19 6) 57,o3 59 (.ld 1 false 58) 57,o3 60 (.faddr 19 2) 57,o3 61 (.ld 1 false 60) 57,o3 62 (.call 31 [59,61]) 57,o1 63 (.pick 57 62 (.const (.bool false))),o1 64 (.mv 63),o3 65 (.faddr 7 6) 64,o3 66 (.ld 3 true 65) 64,o3 67 (.faddr 7 2) 64,o3 68 (.ld 3 true 67) 64,o3 69 (.eqs false [(.int .i64),(.int .i64),(.int .i64)] 66 68) 64,o1 70 (.pick 64 69 (.const (.bool false))),o1 71 (.mv 70),o3 72 (.faddr 11 6) 71,o3 73 (.ld 1 false 72) 71,o3 74 (.faddr 11 2) 71,o3 75 (.ld 1 false 74) 71,o3 76 (.call 19 [73,75]) 71,o1 77 (.pick 71 76 (.const (.bool false))),o1 78 (.mv 77),o3 79 (.faddr 12 6) 78,o3 80 (.ld 1 false 79) 78,o3 81 (.faddr 12 2) 78,o3 82 (.ld 1 false 81) 78,o3 83 (.call 19 [80,82]) 78,o1 84 (.pick 78 83 (.const (.bool false))),o1 85 (.mv 84),o3 86 (.faddr 0 3) 85,o3 87 (.ld 1 false 86) 85,o3 88 (.bin .eql 87 (ci 11)) 85,o3 89 (.mv 88) 85,o4 90 (.mv 8) 89,o4 91 (.bin .leq 90 (ci 1)) 89,o4 92 (.mv 91) 89,o3 93 (.ld 20 true 2) 92,o3 94 (.ld 20 true 6) 92,o3 95 (.call 30 [93,94]) 92,o3 96 (.bin .eql 95 (ci 0)) 92,o4 97 (.pick 92 96 (.const (.bool false))) 89,o3 98 (.pick 89 (.const (.bool true)) 97) 85,o1 99 (.pick 85 98 (.const (.bool false))),o1 4 (.mv 99)]) .ret)))))))),[(4,none)]⟩
theorem Hh:xf Tryz.prog 11=some AJ:=by kernel_rfl
theorem NY {s:State} {k th v u:Int} (hA:cX Tryz.prog 22 [] (.bool true,[],[])):cX Tryz.prog 11 [.agg (bR s),.agg [.int .i64 k,.int .i64 th,.int .i64 v,.int .i64 u]] (.bool true,[],[]):=by
  cases hf:HX s with
  | false =>
    refine aI bP Hh (by simp [AJ]) fun hw _=>?_
    clear hw
    repeat' with_reducible first|refine aQ (fun h=>?_) (fun h=>?_)|refine bB (fun h=>?_) (fun h=>?_)|refine aF (fun h=>?_) (fun h=>?_)|refine aH (fun h=>?_) (fun h=>?_)|refine FN ?_ ?_ ?_ ?_ rfl ?_|refine aR ?_ ?_|refine bC ?_ ?_|refine bM ?_ ?_|refine IA ?_ ?_ ?_|refine L1 ?_ ?_|refine L2 ?_ ?_|refine L3 ?_ ?_ ?_ ?_|refine L4 ?_ ?_|refine L5 ?_ ?_ ?_ ?_ ?_|refine L6 ?_ ?_ ?_ ?_ ?_|refine G9 hA ?_ (by simp -implicitDefEqProofs only [qU,pure_encZ]; done) ?_ ?_|refine G9 (oX ) ?_ (by simp -implicitDefEqProofs only [qU,pure_encZ]; done) ?_ ?_|refine G9 (oY ?_) ?_ (by simp -implicitDefEqProofs only [qU,pure_encZ]; done) ?_ ?_|refine G9 (uG ?_ ?_) ?_ (by simp -implicitDefEqProofs only [qU,pure_encZ]; done) ?_ ?_|refine G9 (pI ?_) ?_ (by simp -implicitDefEqProofs only [qU,pure_encZ]; done) ?_ ?_|refine G9 (mY ?_) ?_ (by simp -implicitDefEqProofs only [qU,pure_encZ]; done) ?_ ?_|refine F2 (pI ?_) ?_ ?_ ?_|refine F2 (mY ?_) ?_ ?_ ?_|refine eK (d:=default) ?_ ?_|refine gV [] [(2,2),(3,3),(4,4)] (i+1,((sE s.threads A.threads (i+1):Nat):Int)) ?_ ?_ ?_ ?_ ?_ ?_|simp -implicitDefEqProofs only [AJ,qA,bN,bD,bO,aP,qU,D1,D4,D5,D3,D0,D6,reduceIte,reduceCtorEq,qI,E2,E1,cL,E0,qZ,dI,dJ,gN,iJ,qC,qT,qK,oG,Dy,nF,wB,F1,F4,F5,bS,cJ,cY, *]
    all_goals first
      | exact G3 _
      | (refine H2 ?_; simp; done)
      | omega
      | skip
  | true =>
  have hb8:=Ee (k:=100000000) hf (by omega)
  have hb7:=Ee (k:=10000000) hf (by omega)
  have hb5:=Ee (k:=100000) hf (by omega)
  have hT5:=hb5.all
  have hba:Bd (oW s ⟨k,th,v,u⟩).1 (200+1):=HW (Ll hf)
  have hba8:Bd (oW s ⟨k,th,v,u⟩).1 100000000:=hba.mono (by omega)
  have hba7:Bd (oW s ⟨k,th,v,u⟩).1 10000000:=hba.mono (by omega)
  have hTa:=hba8.all
  clear hba
  by_cases hk:k=10
  · refine aI bP Hh (by simp [AJ]) fun hw _=>?_
    clear hw
    repeat' with_reducible first|refine aQ (fun h=>?_) (fun h=>?_)|refine bB (fun h=>?_) (fun h=>?_)|refine aF (fun h=>?_) (fun h=>?_)|refine aH (fun h=>?_) (fun h=>?_)|refine FN ?_ ?_ ?_ ?_ rfl ?_|refine aR ?_ ?_|refine bC ?_ ?_|refine bM ?_ ?_|refine IA ?_ ?_ ?_|refine L1 ?_ ?_|refine L2 ?_ ?_|refine L3 ?_ ?_ ?_ ?_|refine L4 ?_ ?_|refine L5 ?_ ?_ ?_ ?_ ?_|refine L6 ?_ ?_ ?_ ?_ ?_|refine G9 hA ?_ (by simp -implicitDefEqProofs only [qU,pure_encZ]; done) ?_ ?_|refine G9 (oX ) ?_ (by simp -implicitDefEqProofs only [qU,pure_encZ]; done) ?_ ?_|refine G9 (oY ?_) ?_ (by simp -implicitDefEqProofs only [qU,pure_encZ]; done) ?_ ?_|refine G9 (uG ?_ ?_) ?_ (by simp -implicitDefEqProofs only [qU,pure_encZ]; done) ?_ ?_|refine G9 (pI ?_) ?_ (by simp -implicitDefEqProofs only [qU,pure_encZ]; done) ?_ ?_|refine G9 (mY ?_) ?_ (by simp -implicitDefEqProofs only [qU,pure_encZ]; done) ?_ ?_|refine F2 (pI ?_) ?_ ?_ ?_|refine F2 (mY ?_) ?_ ?_ ?_|refine eK (d:=default) ?_ ?_|refine gV [] [(2,2),(3,3),(4,4)] (i+1,((sE s.threads A.threads (i+1):Nat):Int)) ?_ ?_ ?_ ?_ ?_ ?_|simp -implicitDefEqProofs only [AJ,qA,bN,bD,bO,aP,qU,D1,D4,D5,D3,D0,D6,reduceIte,reduceCtorEq,qI,E2,E1,cL,E0,qZ,dI,dJ,gN,iJ,qC,qT,qK,oG,Dy,nF,wB,F1,F4,F5,bS,cJ,cY, *]
    all_goals first
      | exact G3 _
      | (refine H2 ?_; simp; done)
      | omega
      | skip
  by_cases he:(oW s ⟨k,th,v,u⟩).2=0
  · obtain ⟨g1,g2,g3,g4,g5,g6⟩:=Wj he hk
    generalize hAA:(oW s ⟨k,th,v,u⟩).1=A at *
    have hO:∀ i:Nat,k=11∨(sE s.threads A.threads i≤1∧fY s A=0):=fun i=>by
      rcases g6 with h | ⟨h1,h2⟩
      · exact .inl h
      · exact .inr ⟨h1 i,h2⟩
    clear g6
    have hk10:(k=10)=False:=by simpa using hk
    refine aI bP Hh (by simp [AJ]) fun hw _=>?_
    clear hw
    repeat' with_reducible first|refine aQ (fun h=>?_) (fun h=>?_)|refine bB (fun h=>?_) (fun h=>?_)|refine aF (fun h=>?_) (fun h=>?_)|refine aH (fun h=>?_) (fun h=>?_)|refine FN ?_ ?_ ?_ ?_ rfl ?_|refine aR ?_ ?_|refine bC ?_ ?_|refine bM ?_ ?_|refine IA ?_ ?_ ?_|refine L1 ?_ ?_|refine L2 ?_ ?_|refine L3 ?_ ?_ ?_ ?_|refine L4 ?_ ?_|refine L5 ?_ ?_ ?_ ?_ ?_|refine L6 ?_ ?_ ?_ ?_ ?_|refine G9 hA ?_ (by simp -implicitDefEqProofs only [qU,pure_encZ]; done) ?_ ?_|refine G9 (oX ) ?_ (by simp -implicitDefEqProofs only [qU,pure_encZ]; done) ?_ ?_|refine G9 (oY ?_) ?_ (by simp -implicitDefEqProofs only [qU,pure_encZ]; done) ?_ ?_|refine G9 (uG ?_ ?_) ?_ (by simp -implicitDefEqProofs only [qU,pure_encZ]; done) ?_ ?_|refine G9 (pI ?_) ?_ (by simp -implicitDefEqProofs only [qU,pure_encZ]; done) ?_ ?_|refine G9 (mY ?_) ?_ (by simp -implicitDefEqProofs only [qU,pure_encZ]; done) ?_ ?_|refine F2 (pI ?_) ?_ ?_ ?_|refine F2 (mY ?_) ?_ ?_ ?_|refine eK (d:=default) ?_ ?_|refine gV [] [(2,2),(3,3),(4,4)] (i+1,((sE s.threads A.threads (i+1):Nat):Int)) ?_ ?_ ?_ ?_ ?_ ?_|simp -implicitDefEqProofs only [AJ,qA,bN,bD,bO,aP,qU,D1,D4,D5,D3,D0,D6,reduceIte,reduceCtorEq,qI,E2,E1,cL,E0,qZ,dI,dJ,gN,iJ,qC,qT,qK,oG,Dy,nF,wB,F1,F4,F5,bS,cJ,cY, *]
    all_goals first
      | exact hb5
      | exact hb8
      | omega
      | refine oN 6 (fun t:Nat×Int=>nl 2 (some (.ptr 2 0 0) :: some (.ptr 3 0 0) :: nl 1 (some (.bool true) :: some (.ptr 4 0 0) :: some (.int .i64 0) :: some (.int .i64 t.2) :: some (.int .i64 t.1) :: nl 90 []))) (fun _=>[(2,.rows 33 20 [bR s]),(3,.rows 54 4 [[.int .i64 k,.int .i64 th,.int .i64 v,.int .i64 u]]),(4,.rows 33 20 [bR A])]) (fun t=>t.1≤s.threads.length∧t.2=(sE s.threads A.threads t.1:Nat)) (fun t=>s.threads.length - t.1) [] [(1,2),(17,3),(225,4)] (0,0) (by omega) ?_ ?_ ?_ ?_ ?_ ?_
      | exact G3 _
      | skip
    rotate_right
    · rintro ⟨i,c⟩ ⟨hi,hJ⟩
      simp only [] at hi hJ
      have hc:=Nb s.threads A.threads i
      have hc0:0≤c∧c≤1000000 * 100:=by omega
      have w1:=MH (c:=c) (by omega)
      have w2:IntKind.wrap .i64 ((i:Int)+1)=((i+1:Nat):Int):=bL (by omega) (by omega)
      have hJ2:∀ k:Nat,k=i→c=(sE s.threads A.threads k:Nat):=fun k e=>by rw [e]; exact hJ
      clear hJ
      simp only [dL,dK,all_nil,dI,dJ]
      intros
      repeat' with_reducible first|refine aQ (fun h=>?_) (fun h=>?_)|refine bB (fun h=>?_) (fun h=>?_)|refine aF (fun h=>?_) (fun h=>?_)|refine aH (fun h=>?_) (fun h=>?_)|refine FN ?_ ?_ ?_ ?_ rfl ?_|refine aR ?_ ?_|refine bC ?_ ?_|refine bM ?_ ?_|refine IA ?_ ?_ ?_|refine L1 ?_ ?_|refine L2 ?_ ?_|refine L3 ?_ ?_ ?_ ?_|refine L4 ?_ ?_|refine L5 ?_ ?_ ?_ ?_ ?_|refine L6 ?_ ?_ ?_ ?_ ?_|refine G9 hA ?_ (by simp -implicitDefEqProofs only [qU,pure_encZ]; done) ?_ ?_|refine G9 (oX ) ?_ (by simp -implicitDefEqProofs only [qU,pure_encZ]; done) ?_ ?_|refine G9 (oY ?_) ?_ (by simp -implicitDefEqProofs only [qU,pure_encZ]; done) ?_ ?_|refine G9 (uG ?_ ?_) ?_ (by simp -implicitDefEqProofs only [qU,pure_encZ]; done) ?_ ?_|refine G9 (pI ?_) ?_ (by simp -implicitDefEqProofs only [qU,pure_encZ]; done) ?_ ?_|refine G9 (mY ?_) ?_ (by simp -implicitDefEqProofs only [qU,pure_encZ]; done) ?_ ?_|refine F2 (pI ?_) ?_ ?_ ?_|refine F2 (mY ?_) ?_ ?_ ?_|refine eK (d:=default) ?_ ?_|refine gV [] [(2,2),(3,3),(4,4)] (i+1,((sE s.threads A.threads (i+1):Nat):Int)) ?_ ?_ ?_ ?_ ?_ ?_|simp -implicitDefEqProofs only [AJ,qA,bN,bD,bO,aP,qU,D1,D4,D5,D3,D0,D6,reduceIte,reduceCtorEq,qI,E2,E1,cL,E0,qZ,dI,dJ,gN,iJ,qC,qT,qK,oG,Dy,nF,wB,F1,F4,F5,bS,cJ,cY, *]
      all_goals first
        | exact hb5
        | exact hb8
        | exact hb7
        | exact hba8
        | exact hba7
        | exact G3 _
        | (refine H2 ?_; simp; done)
        | omega
        | (clear hJ2 hO
           simp only [decide_eq_true_eq,decide_eq_false_iff_not] at *
           simp only [sE, *,if_true,if_false,reduceIte,Nat.add_zero]
           first | done | (rw [bL (by omega) (by omega)]; omega) | omega)
        | (have hJ:=hJ2 i rfl
           have h1:=hO i
           simp only [decide_eq_true_eq,decide_eq_false_iff_not] at *
           first
           | omega
           | (refine H2 ?_; simp [*]; done)
           | (refine H2 ?_; simp [*]; omega))
        | skip
    all_goals first
      | omega
      | (simp -implicitDefEqProofs only [qA,bN,bD,bO,aJ,aP,qU,D1,D4,D5,D3,D0,D6,reduceIte,reduceCtorEq,qI,E2,E1,qZ,dI,dJ,qC]; first | done | (simp; done))
      | exact ⟨Nat.zero_le _,by simp [sE]⟩
      | skip

  · have hs:=Gi he
    refine aI bP Hh (by simp [AJ]) fun hw _=>?_
    clear hw
    repeat' with_reducible first|refine aQ (fun h=>?_) (fun h=>?_)|refine bB (fun h=>?_) (fun h=>?_)|refine aF (fun h=>?_) (fun h=>?_)|refine aH (fun h=>?_) (fun h=>?_)|refine FN ?_ ?_ ?_ ?_ rfl ?_|refine aR ?_ ?_|refine bC ?_ ?_|refine bM ?_ ?_|refine IA ?_ ?_ ?_|refine L1 ?_ ?_|refine L2 ?_ ?_|refine L3 ?_ ?_ ?_ ?_|refine L4 ?_ ?_|refine L5 ?_ ?_ ?_ ?_ ?_|refine L6 ?_ ?_ ?_ ?_ ?_|refine G9 hA ?_ (by simp -implicitDefEqProofs only [qU,pure_encZ]; done) ?_ ?_|refine G9 (oX ) ?_ (by simp -implicitDefEqProofs only [qU,pure_encZ]; done) ?_ ?_|refine G9 (oY ?_) ?_ (by simp -implicitDefEqProofs only [qU,pure_encZ]; done) ?_ ?_|refine G9 (uG ?_ ?_) ?_ (by simp -implicitDefEqProofs only [qU,pure_encZ]; done) ?_ ?_|refine G9 (pI ?_) ?_ (by simp -implicitDefEqProofs only [qU,pure_encZ]; done) ?_ ?_|refine G9 (mY ?_) ?_ (by simp -implicitDefEqProofs only [qU,pure_encZ]; done) ?_ ?_|refine F2 (pI ?_) ?_ ?_ ?_|refine F2 (mY ?_) ?_ ?_ ?_|refine eK (d:=default) ?_ ?_|refine gV [] [(2,2),(3,3),(4,4)] (i+1,((sE s.threads A.threads (i+1):Nat):Int)) ?_ ?_ ?_ ?_ ?_ ?_|simp -implicitDefEqProofs only [AJ,qA,bN,bD,bO,aP,qU,D1,D4,D5,D3,D0,D6,reduceIte,reduceCtorEq,qI,E2,E1,cL,E0,qZ,dI,dJ,gN,iJ,qC,qT,qK,oG,Dy,nF,wB,F1,F4,F5,bS,cJ,cY, *]
    all_goals first
      | exact G3 _
      | (refine H2 ?_; simp; done)
      | omega
      | skip

end Go.Sak
