/- Part T125 of the proofs about the program: K230, K231, K232. Conditions: none. -/
import Derived.Test.YtahdilehajdhgaaGreatT10
open Go.Sak.ACK renaming of→F7
open Go.Sak.ACV renaming of→F2
open Int renaming reduceEq→F4,reduceNe→F5,toNat_natCast→E0
open List renaming reduceReplicate→D1,set→Z4
open Nat renaming reduceAdd→D4,reduceBEq→E1,reduceEqDiff→D0,reduceLT→E2,reduceLeDiff→D3,reduceMul→D6,reduceSub→D5
open Go.Proofs.Tryz renaming prog→D8
open Go.Sak.Wk renaming of_eq→H2,refl→G3
namespace Go.Sak
open Go Go.RowKit Go.Proofs
set_option linter.unusedVariables false
set_option linter.unusedSimpArgs false
set_option maxRecDepth 10000
set_option maxHeartbeats 8000000
def UV:AFn:=⟨9,(.seq (.reg [o1 2 (.mv (.const (.bool false)))]) (.seq (.reg [o1 3 (.mv 0),o1 4 (.bin .geq 3 (ci 0)),o1 5 (.mv 4),o3 6 (.mv 0) 5,o3 7 (.bin .leq 6 (ci 1099511627776)) 5,o1 8 (.pick 5 7 (.const (.bool false))),o1 2 (.mv 8)]) .ret)),[(2,none)]⟩
theorem YY:xf D8 67=some UV:=by kernel_rfl
theorem wE {n:Int}  : cX D8 67 [.int .i64 n] ((.bool (My n)),[],[]):=by
  refine aI bP YY (by simp [UV]) fun hw _=>?_
  simp only [iR,AV.wf,aY] at hw
  repeat' with_reducible first|refine aQ (fun h=>?_) (fun h=>?_)|refine bB (fun h=>?_) (fun h=>?_)|refine aF (fun h=>?_) (fun h=>?_)|refine aH (fun h=>?_) (fun h=>?_)|refine bJ ?_ ?_ ?_ ?_|refine aR ?_ ?_|refine bC ?_ ?_|refine bM ?_ ?_|simp -implicitDefEqProofs only [UV,qA,cS,cW,aJ,aP,qU,D1,D4,D5,D3,D0,D6,reduceIte,reduceCtorEq, *]
  all_goals first
    | (simp; done)
    | exact bE
    | exact bE.symm
    | grind [aY,bL,bI,My]

def UU:AFn:=⟨32,(.seq (.reg [o1 1 (.box 102 0),o1 2 (.alloc 102 [(.int .i64 0),(.int .i64 0),(.int .i64 0),(.int .i64 0)])]) (.seq (.reg [o1 4 (.faddr 0 1),o1 5 (.ld 1 false 4),o1 6 (.build [(.int .i64 0),(.int .i64 0),(.int .i64 0),(.int .i64 0)] [(0,1,5)]),o1 3 (.alloc 102 [(.int .i64 0),(.int .i64 0),(.int .i64 0),(.int .i64 0)]),o2 (.st 4 3 6)]) (.seq (.seq (.reg [o1 7 (.faddr 0 1),o1 8 (.ld 1 false 7),o1 9 (.bin .neq 8 (ci 11))]) (.cond 9 (.reg [o1 10 (.faddr 1 1),o1 11 (.ld 1 false 10),o1 12 (.faddr 1 3),o2 (.st 1 12 11)]) .skip)) (.seq (.seq (.reg [o1 13 (.faddr 0 1),o1 14 (.ld 1 false 13),o1 15 (.bin .eql 14 (ci 11)),o1 16 (.mv 15),o4 17 (.faddr 0 1) 16,o4 18 (.ld 1 false 17) 16,o4 19 (.call 75 [18]) 16,o4 20 (.bin .eql 19 (ci 1)) 16,o1 21 (.pick 16 (.const (.bool true)) 20)]) (.cond 21 (.reg [o1 22 (.faddr 2 1),o1 23 (.ld 1 false 22),o1 24 (.faddr 2 3),o2 (.st 1 24 23)]) .skip)) (.seq (.seq (.reg [o1 25 (.faddr 0 1),o1 26 (.ld 1 false 25),o1 27 (.call 104 [26])]) (.cond 27 (.reg [o1 28 (.faddr 3 1),o1 29 (.ld 1 false 28),o1 30 (.faddr 3 3),o2 (.st 1 30 29)]) .skip)) (.seq (.reg [o1 31 (.ld 4 true 3),o2 (.st 4 2 31)]) .ret)))))),[(2,some (4,true))]⟩
theorem YX:xf D8 66=some UU:=by kernel_rfl
theorem wD {YE RE:Int} {YG YF:Int}  : cX D8 66 [.agg [.int .i64 YE,.int .i64 RE,.int .i64 YG,.int .i64 YF]] ((.agg (lE (vX (Cal.mk YE RE YG YF)))),[],[]):=by
  refine aI bP YX (by simp [UU]) fun hw _=>?_
  simp only [iR,AV.wf,aY] at hw
  repeat' with_reducible first|refine aQ (fun h=>?_) (fun h=>?_)|refine bB (fun h=>?_) (fun h=>?_)|refine aF (fun h=>?_) (fun h=>?_)|refine aH (fun h=>?_) (fun h=>?_)|refine bJ ?_ ?_ ?_ ?_|refine aR ?_ ?_|refine bC ?_ ?_|refine bM ?_ ?_|refine P0 (gI) ?_ ?_ ?_|refine F2 (gI) ?_ ?_ ?_|refine F7 (gI) ?_ ?_|refine P0 (pX) ?_ ?_ ?_|refine F2 (pX) ?_ ?_ ?_|refine F7 (pX) ?_ ?_|simp -implicitDefEqProofs only [UU,qA,cS,cW,aJ,aP,qU,D1,D4,D5,D3,D0,D6,reduceIte,reduceCtorEq,lE, *]
  all_goals first
    | (simp; done)
    | exact bE
    | exact bE.symm
    | grind [aY,bL,bI,vX]

set_option maxHeartbeats 8000000
def HQ:AFn:=⟨47,(.seq (.reg [o1 1 (.box 54 0),o1 2 (.mv (ci 0))]) (.seq (.reg [o1 6 (.ld 4 true 1),o1 3 (.alloc 102 [(.int .i64 0),(.int .i64 0),(.int .i64 0),(.int .i64 0)]),o2 (.st 4 3 6)]) (.seq (.regT [o1 8 (.call 60 []),o1 9 (.faddr 0 1),o1 10 (.ld 1 false 9),o1 11 (.lkp .fnnil true 8 10),o1 7 (.mv 11),o1 12 (.ext 7 0),o1 13 (.ext 7 1),o1 4 (.mv 12),o1 5 (.mv 13)] [(0,1),(0,2)]) (.seq (.block 0 (.seq (.seq (.reg [o1 15 (.mv 5),o1 16 (.not 15),o1 17 (.mv 16),o3 18 (.faddr 0 1) 17,o3 19 (.ld 1 false 18) 17,o3 20 (.call 65 [19]) 17,o3 21 (.not 20) 17,o1 22 (.pick 17 21 (.const (.bool false))),o1 14 (.mv 22)]) (.cond 14 .skip (.seq (.regT [o1 23 (.ld 4 true 3),o1 24 (.ld 4 true 3),o1 25 (.call 66 [24]),o1 26 (.eqs true [(.int .i64),(.int .i64),(.int .i64),(.int .i64)] 23 25),o1 14 (.mv 26)] [(0,1),(0,2)]) (.cond 14 .skip (.seq (.reg [o1 27 (.faddr 1 1),o1 28 (.ld 1 false 27),o1 29 (.bin .lss 28 (ci 0)),o1 14 (.mv 29)]) (.cond 14 .skip (.reg [o1 30 (.faddr 1 1),o1 31 (.ld 1 false 30),o1 32 (.bin .geq 31 (ci 16)),o1 14 (.mv 32)]))))))) (.cond 14 (.seq (.reg [o1 2 (.mv (ci 190))]) .ret) (.seq (.seq (.reg [o1 34 (.faddr 3 1),o1 35 (.ld 1 false 34),o1 36 (.call 67 [35]),o1 37 (.not 36),o1 33 (.mv 37)]) (.cond 33 .skip (.reg [o1 38 (.faddr 0 1),o1 39 (.ld 1 false 38),o1 40 (.bin .eql 39 (ci 11)),o1 41 (.mv 40),o3 42 (.faddr 2 1) 41,o3 43 (.ld 1 false 42) 41,o3 44 (.call 67 [43]) 41,o3 45 (.not 44) 41,o1 46 (.pick 41 45 (.const (.bool false))),o1 33 (.mv 46)]))) (.cond 33 (.seq (.reg [o1 2 (.mv (ci 50))]) .ret) .skip))))) (.seq (.reg [o1 2 (.mv (ci 0))]) .ret))))),[(2,none)]⟩
theorem VW:xf D8 27=some HQ:=by kernel_rfl
def UR:AFn:=⟨3,(.seq (.reg [o1 0 (.mv (.const .mapnil))]) (.seq (.reg [o1 1 (.mkmap),o2 (.mupd 1 (ci 11) (.func 107)),o2 (.mupd 1 (ci 10) (.func 108)),o1 2 (.mv 1),o1 0 (.mv 2)]) .ret)),[(0,none)]⟩
theorem YU:xf D8 60=some UR:=by kernel_rfl
theorem Bb:cX D8 60 [] (.mapm 1,[(1,some (.mp [(.int .i64 11,.fn (.func 107) [] []),(.int .i64 10,.fn (.func 108) [] [])]))],[]):=by
  refine aI bP YU (by simp [UR]) fun hw _=>?_
  clear hw
  repeat' with_reducible first|refine aQ (fun h=>?_) (fun h=>?_)|refine bB (fun h=>?_) (fun h=>?_)|refine aF (fun h=>?_) (fun h=>?_)|refine aH (fun h=>?_) (fun h=>?_)|refine FN ?_ ?_ ?_ ?_ rfl ?_|refine aR ?_ ?_|refine bC ?_ ?_|refine bM ?_ ?_|refine IA ?_ ?_ ?_|refine L1 ?_ ?_|refine L2 ?_ ?_|refine L3 ?_ ?_ ?_ ?_|refine L4 ?_ ?_|refine L5 ?_ ?_ ?_ ?_ ?_|refine L6 ?_ ?_ ?_ ?_ ?_|simp -implicitDefEqProofs only [UR,qA,bN,bD,bO,aJ,aP,qU,D1,D4,D5,D3,D0,D6,reduceIte,reduceCtorEq,qI,E2,E1,cL,E0,bH,lE,eX,fJ,fM,dV,AV.isInt,F4,F5,Z4, *]
  all_goals first
    | exact wN [] [(17,1)] rfl rfl rfl rfl
    | skip

theorem Cy (b:Nat):(mU 1 b).mp 1=.mapm b:=by simp [mU,jR]
theorem Nh {k th v u:Int}:cX D8 27 [.agg [.int .i64 k,.int .i64 th,.int .i64 v,.int .i64 u]] (.int .i64 (lW ⟨k,th,v,u⟩),[],[]):=by
  rcases Decidable.em (k=11) with h1 | h1
  · refine aI bP VW (by simp [HQ]) fun hw _=>?_
    clear hw
    repeat' with_reducible first|refine aQ (fun h=>?_) (fun h=>?_)|refine bB (fun h=>?_) (fun h=>?_)|refine aF (fun h=>?_) (fun h=>?_)|refine aH (fun h=>?_) (fun h=>?_)|refine FN ?_ ?_ ?_ ?_ rfl ?_|refine aR ?_ ?_|refine bC ?_ ?_|refine bM ?_ ?_|refine IA ?_ ?_ ?_|refine L1 ?_ ?_|refine L2 ?_ ?_|refine L3 ?_ ?_ ?_ ?_|refine L4 ?_ ?_|refine L5 ?_ ?_ ?_ ?_ ?_|refine L6 ?_ ?_ ?_ ?_ ?_|refine AC.n1 Bb ?_ (by simp [pures]; done) ?_|refine P0 (lQ) ?_ ?_ ?_|refine F2 (lQ) ?_ ?_ ?_|refine F7 (lQ) ?_ ?_|refine P0 (wD) ?_ ?_ ?_|refine F2 (wD) ?_ ?_ ?_|refine F7 (wD) ?_ ?_|refine P0 (wE) ?_ ?_ ?_|refine F2 (wE) ?_ ?_ ?_|refine F7 (wE) ?_ ?_|simp -implicitDefEqProofs only [HQ,qA,bN,bD,bO,aJ,aP,qU,D1,D4,D5,D3,D0,D6,reduceIte,reduceCtorEq,qI,E2,E1,cL,E0,bH,lE,Cy,eX,fJ,fM,dV,AV.isInt,F4,F5,Z4, *]
    all_goals first
      | exact G3 _
      | (refine H2 ?_; simp_all [lW,vX]; done)
      | (refine H2 ?_; simp_all [lW,vX]; grind)
      | skip
  · rcases Decidable.em (k=10) with h2 | h2
    · refine aI bP VW (by simp [HQ]) fun hw _=>?_
      clear hw
      repeat' with_reducible first|refine aQ (fun h=>?_) (fun h=>?_)|refine bB (fun h=>?_) (fun h=>?_)|refine aF (fun h=>?_) (fun h=>?_)|refine aH (fun h=>?_) (fun h=>?_)|refine FN ?_ ?_ ?_ ?_ rfl ?_|refine aR ?_ ?_|refine bC ?_ ?_|refine bM ?_ ?_|refine IA ?_ ?_ ?_|refine L1 ?_ ?_|refine L2 ?_ ?_|refine L3 ?_ ?_ ?_ ?_|refine L4 ?_ ?_|refine L5 ?_ ?_ ?_ ?_ ?_|refine L6 ?_ ?_ ?_ ?_ ?_|refine AC.n1 Bb ?_ (by simp [pures]; done) ?_|refine P0 (lQ) ?_ ?_ ?_|refine F2 (lQ) ?_ ?_ ?_|refine F7 (lQ) ?_ ?_|refine P0 (wD) ?_ ?_ ?_|refine F2 (wD) ?_ ?_ ?_|refine F7 (wD) ?_ ?_|refine P0 (wE) ?_ ?_ ?_|refine F2 (wE) ?_ ?_ ?_|refine F7 (wE) ?_ ?_|simp -implicitDefEqProofs only [HQ,qA,bN,bD,bO,aJ,aP,qU,D1,D4,D5,D3,D0,D6,reduceIte,reduceCtorEq,qI,E2,E1,cL,E0,bH,lE,Cy,eX,fJ,fM,dV,AV.isInt,F4,F5,Z4, *]
      all_goals first
        | exact G3 _
        | (refine H2 ?_; simp_all [lW,vX]; done)
        | (refine H2 ?_; simp_all [lW,vX]; grind)
        | skip
    · have e1:(k=11)=False:=by simpa using h1
      have e2:(k=10)=False:=by simpa using h2
      refine aI bP VW (by simp [HQ]) fun hw _=>?_
      clear hw
      repeat' with_reducible first|refine aQ (fun h=>?_) (fun h=>?_)|refine bB (fun h=>?_) (fun h=>?_)|refine aF (fun h=>?_) (fun h=>?_)|refine aH (fun h=>?_) (fun h=>?_)|refine FN ?_ ?_ ?_ ?_ rfl ?_|refine aR ?_ ?_|refine bC ?_ ?_|refine bM ?_ ?_|refine IA ?_ ?_ ?_|refine L1 ?_ ?_|refine L2 ?_ ?_|refine L3 ?_ ?_ ?_ ?_|refine L4 ?_ ?_|refine L5 ?_ ?_ ?_ ?_ ?_|refine L6 ?_ ?_ ?_ ?_ ?_|refine AC.n1 Bb ?_ (by simp [pures]; done) ?_|refine P0 (lQ) ?_ ?_ ?_|refine F2 (lQ) ?_ ?_ ?_|refine F7 (lQ) ?_ ?_|refine P0 (wD) ?_ ?_ ?_|refine F2 (wD) ?_ ?_ ?_|refine F7 (wD) ?_ ?_|refine P0 (wE) ?_ ?_ ?_|refine F2 (wE) ?_ ?_ ?_|refine F7 (wE) ?_ ?_|simp -implicitDefEqProofs only [HQ,qA,bN,bD,bO,aJ,aP,qU,D1,D4,D5,D3,D0,D6,reduceIte,reduceCtorEq,qI,E2,E1,cL,E0,bH,lE,Cy,eX,fJ,fM,dV,AV.isInt,F4,F5,Z4, *]
      all_goals first
        | exact G3 _
        | (refine H2 ?_; simp_all [lW,vX]; done)
        | (refine H2 ?_; simp_all [lW,vX]; grind)
        | skip

set_option maxHeartbeats 8000000
def XU:AFn:=⟨12,(.seq (.reg [o1 1 (.box 54 0),o1 2 (.mv (.const .slnil))]) (.seq (.reg [o1 3 (.faddr 0 1),o1 4 (.ld 1 false 3),o1 5 (.faddr 1 1),o1 6 (.ld 1 false 5),o1 7 (.faddr 2 1),o1 8 (.ld 1 false 7),o1 9 (.faddr 3 1),o1 10 (.ld 1 false 9),o1 11 (.bslice 3 1 4 [4,6,8,10]),o1 2 (.mv 11)]) .ret)),[(2,none)]⟩
theorem C0:xf D8 29=some XU:=by kernel_rfl
def XT:AFn:=⟨30,(.seq (.reg [o1 2 (.alloc 54 [(.int .i64 0),(.int .i64 0),(.int .i64 0),(.int .i64 0)]),o1 3 (.mv (ci 0))]) (.seq (.seq (.reg [o1 6 (.mv 0),o1 7 (.len 6),o1 8 (.bin .neq 7 (ci 4))]) (.cond 8 (.seq (.reg [o1 9 (.build [(.int .i64 0),(.int .i64 0),(.int .i64 0),(.int .i64 0)] []),o2 (.st 4 2 9),o1 3 (.mv (ci 190))]) .ret) .skip)) (.seq (.regT [o1 10 (.mv 0),o1 11 (.iaddr 1 10 (ci 0)),o1 12 (.ld 1 false 11),o1 13 (.mv 0),o1 14 (.iaddr 1 13 (ci 1)),o1 15 (.ld 1 false 14),o1 16 (.mv 0),o1 17 (.iaddr 1 16 (ci 2)),o1 18 (.ld 1 false 17),o1 19 (.mv 0),o1 20 (.iaddr 1 19 (ci 3)),o1 21 (.ld 1 false 20),o1 22 (.build [(.int .i64 0),(.int .i64 0),(.int .i64 0),(.int .i64 0)] [(0,1,12),(1,1,15),(2,1,18),(3,1,21)]),o1 4 (.alloc 54 [(.int .i64 0),(.int .i64 0),(.int .i64 0),(.int .i64 0)]),o2 (.st 4 4 22)] [(1,4),(2,4),(1,5),(2,5),(1,7),(2,7),(4,7),(5,7),(1,8),(2,8),(4,8),(5,8),(1,10),(2,10),(4,10),(5,10),(7,10),(8,10),(1,11),(2,11),(4,11),(5,11),(7,11),(8,11),(1,13),(2,13),(4,13),(5,13),(7,13),(8,13),(10,13),(11,13)]) (.seq (.seq (.reg [o1 23 (.ld 4 true 4),o1 24 (.call 27 [23]),o1 5 (.mv 24)]) (.seq (.reg [o1 25 (.mv 5),o1 26 (.bin .neq 25 (ci 0))]) (.cond 26 (.seq (.reg [o1 27 (.build [(.int .i64 0),(.int .i64 0),(.int .i64 0),(.int .i64 0)] []),o1 28 (.mv 5),o2 (.st 4 2 27),o1 3 (.mv 28)]) .ret) .skip))) (.seq (.reg [o1 29 (.ld 4 true 4),o2 (.st 4 2 29),o1 3 (.mv (ci 0))]) .ret))))),[(2,some (4,true)),(3,none)]⟩
theorem B9:xf D8 23=some XT:=by kernel_rfl
end Go.Sak
