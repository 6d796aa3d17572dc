/- Part U143 of the proofs about the program: K243. Conditions: none. -/
import Derived.Test.YtahdilehajdhgaaGreatU142
open Go.Sak.AC renaming p0→BQ
open Int renaming natCast_zero→AD,reduceEq→BC,reduceNe→BU,toNat_natCast→Zy
open List renaming reduceReplicate→Zj
open Nat renaming reduceAdd→Zs,reduceBEq→AB,reduceEqDiff→Zk,reduceLT→AE,reduceLeDiff→Zo,reduceMul→Zu,reduceSub→Zt,zero_le→BS
namespace Go.Sak
open Go Go.RowKit Go.Proofs
set_option linter.unusedVariables false
set_option linter.unusedSimpArgs false
set_option maxRecDepth 10000
set_option maxHeartbeats 8000000
def rX:ACode:=(.seq (.reg [o1 8 (.mv (.const (.bool false)))]) (.seq (.seq (.reg [o1 9 (.mv (ci 0))]) (.block 0 (.loop (.seq (.seq (.reg [o1 41 (.mv 9),o1 42 (.faddr 18 2),o1 43 (.ld 1 false 42),o1 44 (.len 43),o1 45 (.bin .lss 41 44)]) (.cond 45 .skip (.exit 0))) (.seq (.block 1 (.reg [o1 48 (.mv 8),o1 49 (.mv 48),o4 50 (.faddr 18 2) 49,o4 51 (.ld 1 false 50) 49,o4 52 (.mv 9) 49,o4 53 (.iaddr 11 51 52) 49,o4 54 (.faddr 0 53) 49,o4 55 (.ld 1 false 54) 49,o4 56 (.bin .eql 55 (ci 2)) 49,o1 57 (.pick 49 (.const (.bool true)) 56),o1 8 (.mv 57)])) (.reg [o1 46 (.mv 9),o1 47 (.bin .add 46 (ci 1)),o1 9 (.mv 47)])))))) (.seq (.seq (.reg [o1 10 (.mv (ci 0))]) (.block 2 (.loop (.seq (.seq (.reg [o1 58 (.mv 10),o1 59 (.mv 6),o1 60 (.len 59),o1 61 (.bin .lss 58 60)]) (.cond 61 .skip (.exit 2))) (.seq (.block 3 (.seq (.regT [o1 64 (.mv 6),o1 65 (.mv 10),o1 66 (.iaddr 1 64 65),o1 67 (.ld 1 false 66),o1 68 (.bin .lss 67 (ci 0)),o1 69 (.mv 68),o4 70 (.mv 6) 69,o4 71 (.mv 10) 69,o4 72 (.iaddr 1 70 71) 69,o4 73 (.ld 1 false 72) 69,o4 74 (.faddr 18 2) 69,o4 75 (.ld 1 false 74) 69,o4 76 (.len 75) 69,o4 77 (.bin .geq 73 76) 69,o1 78 (.pick 69 (.const (.bool true)) 77),o1 79 (.mv 78),o4 80 (.mv 6) 79,o4 81 (.mv 10) 79,o4 82 (.iaddr 1 80 81) 79,o4 83 (.ld 1 false 82) 79,o4 84 (.mv 1) 79,o4 85 (.bin .eql 83 84) 79,o1 86 (.pick 79 (.const (.bool true)) 85),o1 87 (.mv 86),o4 88 (.faddr 18 2) 87,o4 89 (.ld 1 false 88) 87,o4 90 (.mv 6) 87,o4 91 (.mv 10) 87,o4 92 (.iaddr 1 90 91) 87,o4 93 (.ld 1 false 92) 87,o4 94 (.iaddr 11 89 93) 87,o4 95 (.faddr 0 94) 87,o4 96 (.ld 1 false 95) 87,o4 97 (.bin .neq 96 (ci 1)) 87,o1 98 (.pick 87 (.const (.bool true)) 97)] [(8,10),(9,10),(8,11),(9,11),(8,12),(9,12),(24,28),(25,28),(24,29),(25,29)]) (.cond 98 (.seq (.reg [o1 4 (.mv (.const (.bool false)))]) .ret) .skip))) (.reg [o1 62 (.mv 10),o1 63 (.bin .add 62 (ci 1)),o1 10 (.mv 63)])))))) (.seq (.reg [o1 99 (.mv 5),o1 100 (.mv 99),o3 101 (.mv 7) 100,o3 102 (.mv 101) 100,o4 103 (.mv 6) 102,o4 104 (.len 103) 102,o4 105 (.bin .eql 104 (ci 0)) 102,o4 106 (.mv 105) 102,o3 107 (.ld 20 true 2) 106,o3 108 (.mv 1) 106,o3 109 (.call 34 [107,108]) 106,o3 110 (.not 109) 106,o4 111 (.pick 106 110 (.const (.bool false))) 102,o3 112 (.pick 102 (.const (.bool true)) 111) 100,o1 113 (.pick 100 112 (.const (.bool false))),o1 114 (.mv 113),o3 115 (.mv 8) 114,o3 116 (.mv 115) 114,o4 117 (.ld 20 true 2) 116,o4 118 (.call 35 [117]) 116,o3 119 (.pick 116 (.const (.bool true)) 118) 114,o1 120 (.pick 114 119 (.const (.bool false))),o1 4 (.mv 120)]) .ret))))
def Ay:AFn:=⟨121,(.seq (.reg [o1 2 (.box 33 0),o1 4 (.mv (.const (.bool false)))]) (.seq (.reg [o1 11 (.call 32 []),o1 5 (.mv 11)]) (.seq (.seq (.reg [o1 12 (.ld 20 true 2),o1 13 (.call 15 [12]),o1 14 (.not 13)]) (.cond 14 (.seq (.reg [o1 15 (.mv 5),o1 4 (.mv 15)]) .ret) .skip)) (.seq (.reg [o1 16 (.ld 20 true 2),o1 17 (.mv 1),o1 18 (.call 33 [16,17]),o1 6 (.mv 18)]) (.seq (.reg [o1 19 (.ld 20 true 2),o1 20 (.call 18 [19]),o1 21 (.mv 20),o3 22 (.mv 1) 21,o3 23 (.bin .geq 22 (ci 0)) 21,o1 24 (.pick 21 23 (.const (.bool false))),o1 25 (.mv 24),o3 26 (.mv 1) 25,o3 27 (.faddr 18 2) 25,o3 28 (.ld 1 false 27) 25,o3 29 (.len 28) 25,o3 30 (.bin .lss 26 29) 25,o1 31 (.pick 25 30 (.const (.bool false))),o1 32 (.mv 31),o3 33 (.faddr 18 2) 32,o3 34 (.ld 1 false 33) 32,o3 35 (.mv 1) 32,o3 36 (.iaddr 11 34 35) 32,o3 37 (.faddr 0 36) 32,o3 38 (.ld 1 false 37) 32,o3 39 (.bin .eql 38 (ci 2)) 32,o1 40 (.pick 32 39 (.const (.bool false))),o1 7 (.mv 40)]) rX))))),[(4,none)]⟩
theorem Ll:xf Tryz.prog 13=some Ay:=by kernel_rfl
theorem Ik {s:State} {id:Int} {i:Nat} (h:i<(bL s id).length):0≤((bL s id).getD i default)∧((bL s id).getD i default)<s.threads.length∧((bL s id).getD i default)≠id∧(s.threads.getD ((bL s id).getD i default).toNat default).st=1:=Jb (cT h)
theorem In {s:State} {id:Int}:cH s id=(eJ s && decide (id≥0) && decide (id<s.threads.length) && decide ((s.threads.getD id.toNat default).st=2)):=rfl
theorem Az (s:State):jP s 0=false:=rfl
theorem Bh:∀ (n:Nat) (l:List AV),l.length=n→Mt (nl n []) l
  | 0,[],_=>trivial
  | n+1,x :: l,h=>by rw [eO,mt_none]; exact Bh n l (by simpa using h)
theorem zS {s:State} {id:Int} (hb8:Bd s 100000000) (hbt:s.slots.length≤200∧s.sends.length≤200∧s.recvs.length≤200∧s.full.ln.length≤200∧s.empty.ln.length≤200∧s.threads.length≤200∧s.log.length≤200) {P:Bool} (hP:cH s id=P) {y0 y3 y4:AV} {ys:List AV} {b:Nat} (hb:2≤b) (hl:ys.length=113):vc Tryz.prog 1 rX (dH [(4,none)] (gB 1 [] (.bool true,[],[]))) (y0 :: .int .i64 id :: .ptr 1 0 0 :: y3 :: y4 :: .bool true :: .slv 1 ((bL s id).map aW) :: .bool P :: ys) [(1,.rows 33 20 [bQ s])] b:=by
  have hm:Mt (nl 1 (some (.int .i64 id) :: some (.ptr 1 0 0) :: nl 2 (some (.bool true) :: some (.slv 1 ((bL s id).map aW)) :: some (.bool P) :: nl 113 []))) (y0 :: .int .i64 id :: .ptr 1 0 0 :: y3 :: y4 :: .bool true :: .slv 1 ((bL s id).map aW) :: .bool P :: ys):=by
    simp only [eO,eQ,mt_none,mt_some,true_and]; exact Bh _ _ hl
  refine Mt.all (Q:=fun env=>vc Tryz.prog 1 rX (dH [(4,none)] (gB 1 [] (.bool true,[],[]))) env [(1,.rows 33 20 [bQ s])] b) ?_ hm
  have hll:=@Cv s id
  clear hm hl
  simp only [dF,dE,all_nil,eO,eQ]
  intros
  repeat' with_reducible first|refine aO (fun h=>?_) (fun h=>?_)|refine aT (fun h=>?_) (fun h=>?_)|refine aC (fun h=>?_) (fun h=>?_)|refine aH (fun h=>?_) (fun h=>?_)|refine FN ?_ ?_ ?_ ?_ rfl ?_|refine aP ?_ ?_|refine aU ?_ ?_|refine bE ?_ ?_|refine IA ?_ ?_ ?_|refine L1 ?_ ?_|refine L2 ?_ ?_|refine L3 ?_ ?_ ?_ ?_|refine L4 ?_ ?_|refine L5 ?_ ?_ ?_ ?_ ?_|refine L6 ?_ ?_ ?_ ?_ ?_|refine BQ hA ?_ (by simp -implicitDefEqProofs only [qU,pure_encZ]; done) ?_ ?_|refine BQ (lW ) ?_ (by simp -implicitDefEqProofs only [qU,pure_encZ]; done) ?_ ?_|refine BQ (jC ?_) ?_ (by simp -implicitDefEqProofs only [qU,pure_encZ]; done) ?_ ?_|refine BQ (jD ?_) ?_ (by simp -implicitDefEqProofs only [qU,pure_encZ]; done) ?_ ?_|refine BQ (lX ?_) ?_ (by simp -implicitDefEqProofs only [qU,pure_encZ]; done) ?_ ?_|refine BQ (kI ?_) ?_ (by simp -implicitDefEqProofs only [qU,pure_encZ]; done) ?_ ?_|refine dR (d:=default) ?_ ?_|simp -implicitDefEqProofs only [Ay,qA,cK,bC,cM,aF,aL,qU,Zj,Zs,Zt,Zo,Zk,Zu,reduceIte,reduceCtorEq,qI,AE,AB,iW,Zy,qZ,qC,qT,qK,dY,iU,AD,bI,cG,cV,aX,aW,BC,BU,eO,eQ,rX, *]
  all_goals first
    | refine pN 5 (fun i:Nat=>nl 1 (some (.int .i64 id) :: some (.ptr 2 0 0) :: nl 2 (some (.bool true) :: some (.slv 1 ((bL s id).map aW)) :: some (.bool P) :: some (.bool (jP s i)) :: some (.int .i64 i) :: nl 111 []))) (fun _=>[(2,.rows 33 20 [bQ s])]) (fun i=>i≤s.threads.length) (fun i=>s.threads.length - i) [] [(1,2)] 0 (by omega) ?_ ?_ ?_ ?_ ?_ ?_
    | skip
  rotate_right
  · intro i hi
    have hN:=Hh s i
    have w2:IntKind.wrap .i64 ((i:Int)+1)=((i+1:Nat):Int):=aR (by omega) (by omega)
    simp only [dF,dE,all_nil,eO,eQ]
    intros
    repeat' with_reducible first|refine aO (fun h=>?_) (fun h=>?_)|refine aT (fun h=>?_) (fun h=>?_)|refine aC (fun h=>?_) (fun h=>?_)|refine aH (fun h=>?_) (fun h=>?_)|refine FN ?_ ?_ ?_ ?_ rfl ?_|refine aP ?_ ?_|refine aU ?_ ?_|refine bE ?_ ?_|refine IA ?_ ?_ ?_|refine L1 ?_ ?_|refine L2 ?_ ?_|refine L3 ?_ ?_ ?_ ?_|refine L4 ?_ ?_|refine L5 ?_ ?_ ?_ ?_ ?_|refine L6 ?_ ?_ ?_ ?_ ?_|refine BQ hA ?_ (by simp -implicitDefEqProofs only [qU,pure_encZ]; done) ?_ ?_|refine BQ (lW ) ?_ (by simp -implicitDefEqProofs only [qU,pure_encZ]; done) ?_ ?_|refine BQ (jC ?_) ?_ (by simp -implicitDefEqProofs only [qU,pure_encZ]; done) ?_ ?_|refine BQ (jD ?_) ?_ (by simp -implicitDefEqProofs only [qU,pure_encZ]; done) ?_ ?_|refine BQ (lX ?_) ?_ (by simp -implicitDefEqProofs only [qU,pure_encZ]; done) ?_ ?_|refine BQ (kI ?_) ?_ (by simp -implicitDefEqProofs only [qU,pure_encZ]; done) ?_ ?_|refine dR (d:=default) ?_ ?_|refine fK [] [(2,2)] (i+1) ?_ ?_ ?_ ?_ ?_ ?_|simp -implicitDefEqProofs only [Ay,qA,cK,bC,cM,aF,aL,qU,Zj,Zs,Zt,Zo,Zk,Zu,reduceIte,reduceCtorEq,qI,AE,AB,iW,Zy,qZ,qC,qT,qK,dY,iU,AD,bI,cG,cV,aX,aW,BC,BU,eO,eQ, *]
    all_goals first
      | omega
      | exact hb8
      | (simp only [decide_eq_true_eq] at *; omega)
      | (simp only [decide_eq_true_eq] at *; constructor <;> omega)
      | (have hi2:i=s.threads.length:=by
           simp only [decide_eq_false_iff_not] at *; omega
         subst hi2
         refine pN 5 (fun i:Nat=>nl 1 (some (.int .i64 id) :: some (.ptr 2 0 0) :: nl 2 (some (.bool true) :: some (.slv 1 ((bL s id).map aW)) :: some (.bool P) :: some (.bool (jP s s.threads.length)) :: nl 1 (some (.int .i64 i) :: nl 110 [])))) (fun _=>[(2,.rows 33 20 [bQ s])]) (fun i=>i≤(bL s id).length) (fun i=>(bL s id).length - i) [] [(2,2)] 0 (by omega) ?_ ?_ ?_ ?_ ?_ ?_)
      | skip
    rotate_right
    · intro j hj
      have hM:=fun a:j<(bL s id).length=>Ik (s:=s) (id:=id) a
      have w3:IntKind.wrap .i64 ((j:Int)+1)=((j+1:Nat):Int):=aR (by omega) (by omega)
      have hno:P=false→bL s id=[]∧iA s id=false:=fun e=>Ja (hP.trans e)
      have hsf:jP s s.threads.length=false→lI s=true:=uV
      clear hN w2 hP
      simp only [dF,dE,all_nil,eO,eQ]
      intros
      repeat' with_reducible first|refine aO (fun h=>?_) (fun h=>?_)|refine aT (fun h=>?_) (fun h=>?_)|refine aC (fun h=>?_) (fun h=>?_)|refine aH (fun h=>?_) (fun h=>?_)|refine FN ?_ ?_ ?_ ?_ rfl ?_|refine aP ?_ ?_|refine aU ?_ ?_|refine bE ?_ ?_|refine IA ?_ ?_ ?_|refine L1 ?_ ?_|refine L2 ?_ ?_|refine L3 ?_ ?_ ?_ ?_|refine L4 ?_ ?_|refine L5 ?_ ?_ ?_ ?_ ?_|refine L6 ?_ ?_ ?_ ?_ ?_|refine BQ hA ?_ (by simp -implicitDefEqProofs only [qU,pure_encZ]; done) ?_ ?_|refine BQ (lW ) ?_ (by simp -implicitDefEqProofs only [qU,pure_encZ]; done) ?_ ?_|refine BQ (jC ?_) ?_ (by simp -implicitDefEqProofs only [qU,pure_encZ]; done) ?_ ?_|refine BQ (jD ?_) ?_ (by simp -implicitDefEqProofs only [qU,pure_encZ]; done) ?_ ?_|refine BQ (lX ?_) ?_ (by simp -implicitDefEqProofs only [qU,pure_encZ]; done) ?_ ?_|refine BQ (kI ?_) ?_ (by simp -implicitDefEqProofs only [qU,pure_encZ]; done) ?_ ?_|refine dR (d:=default) ?_ ?_|refine fK [] [(2,2)] (j+1) ?_ ?_ ?_ ?_ ?_ ?_|simp -implicitDefEqProofs only [Ay,qA,cK,bC,cM,aF,aL,qU,Zj,Zs,Zt,Zo,Zk,Zu,reduceIte,reduceCtorEq,qI,AE,AB,iW,Zy,qZ,qC,qT,qK,dY,iU,AD,bI,cG,cV,aX,aW,BC,BU,eO,eQ, *]
      all_goals first
        | omega
        | exact Wk.refl _
        | exact hb8
        | (simp only [decide_eq_true_eq] at *; omega)
        | (simp only [decide_eq_true_eq] at *; constructor <;> omega)
        | (simp only [decide_eq_true_eq,decide_eq_false_iff_not] at *
           have h1:=hM (by omega)
           exact ⟨h1.1,h1.2.1⟩)
        | (exfalso
           simp only [decide_eq_true_eq,decide_eq_false_iff_not] at *
           have h1:=hM (by omega)
           omega)
        | (refine Wk.of_eq ?_; simp_all; done)
        | skip
    all_goals first
      | omega
      | (simp -implicitDefEqProofs only [qA,cK,bC,cM,aF,aL,qU,Zj,Zs,Zt,Zo,Zk,Zu,reduceIte,reduceCtorEq,qI,AE,AB,qZ,eO,eQ,qC,Az]; first | done | (simp; done))
      | exact BS _
      | skip
  all_goals first
    | omega
    | (simp -implicitDefEqProofs only [qA,cK,bC,cM,aF,aL,qU,Zj,Zs,Zt,Zo,Zk,Zu,reduceIte,reduceCtorEq,qI,AE,AB,qZ,eO,eQ,qC,Az]; first | done | (simp; done))
    | exact BS _
    | skip

theorem Hn {s:State} {id:Int} (hA:bO Tryz.prog 32 [] (.bool true,[],[])):bO Tryz.prog 13 [.agg (bQ s),.int .i64 id] (.bool true,[],[]):=by
  cases hf:Dg s with
  | false =>
    refine aG cD Ll (by simp [Ay]) fun hw _=>?_
    clear hw
    repeat' with_reducible first|refine aO (fun h=>?_) (fun h=>?_)|refine aT (fun h=>?_) (fun h=>?_)|refine aC (fun h=>?_) (fun h=>?_)|refine aH (fun h=>?_) (fun h=>?_)|refine FN ?_ ?_ ?_ ?_ rfl ?_|refine aP ?_ ?_|refine aU ?_ ?_|refine bE ?_ ?_|refine IA ?_ ?_ ?_|refine L1 ?_ ?_|refine L2 ?_ ?_|refine L3 ?_ ?_ ?_ ?_|refine L4 ?_ ?_|refine L5 ?_ ?_ ?_ ?_ ?_|refine L6 ?_ ?_ ?_ ?_ ?_|refine BQ hA ?_ (by simp -implicitDefEqProofs only [qU,pure_encZ]; done) ?_ ?_|refine BQ (lW ) ?_ (by simp -implicitDefEqProofs only [qU,pure_encZ]; done) ?_ ?_|refine BQ (jC ?_) ?_ (by simp -implicitDefEqProofs only [qU,pure_encZ]; done) ?_ ?_|refine BQ (jD ?_) ?_ (by simp -implicitDefEqProofs only [qU,pure_encZ]; done) ?_ ?_|refine BQ (lX ?_) ?_ (by simp -implicitDefEqProofs only [qU,pure_encZ]; done) ?_ ?_|refine BQ (kI ?_) ?_ (by simp -implicitDefEqProofs only [qU,pure_encZ]; done) ?_ ?_|refine dR (d:=default) ?_ ?_|simp -implicitDefEqProofs only [Ay,qA,cK,bC,cM,aF,aL,qU,Zj,Zs,Zt,Zo,Zk,Zu,reduceIte,reduceCtorEq,qI,AE,AB,iW,Zy,qZ,qC,qT,qK,dY,iU,AD,bI,cG,cV,aX,aW,BC,BU,eO,eQ, *]
    all_goals first
      | exact Wk.refl _
      | skip
  | true =>
  have hb8:Bd s 100000000:=(wI hf).mono (by omega)
  have hbt:=(wI hf).all
  refine aG cD Ll (by simp [Ay]) fun hw _=>?_
  clear hw
  repeat' with_reducible first|refine aO (fun h=>?_) (fun h=>?_)|refine aT (fun h=>?_) (fun h=>?_)|refine aC (fun h=>?_) (fun h=>?_)|refine aH (fun h=>?_) (fun h=>?_)|refine FN ?_ ?_ ?_ ?_ rfl ?_|refine aP ?_ ?_|refine aU ?_ ?_|refine bE ?_ ?_|refine IA ?_ ?_ ?_|refine L1 ?_ ?_|refine L2 ?_ ?_|refine L3 ?_ ?_ ?_ ?_|refine L4 ?_ ?_|refine L5 ?_ ?_ ?_ ?_ ?_|refine L6 ?_ ?_ ?_ ?_ ?_|refine BQ hA ?_ (by simp -implicitDefEqProofs only [qU,pure_encZ]; done) ?_ ?_|refine BQ (lW ) ?_ (by simp -implicitDefEqProofs only [qU,pure_encZ]; done) ?_ ?_|refine BQ (jC ?_) ?_ (by simp -implicitDefEqProofs only [qU,pure_encZ]; done) ?_ ?_|refine BQ (jD ?_) ?_ (by simp -implicitDefEqProofs only [qU,pure_encZ]; done) ?_ ?_|refine BQ (lX ?_) ?_ (by simp -implicitDefEqProofs only [qU,pure_encZ]; done) ?_ ?_|refine BQ (kI ?_) ?_ (by simp -implicitDefEqProofs only [qU,pure_encZ]; done) ?_ ?_|refine dR (d:=default) ?_ ?_|refine zS hb8 hbt ?_ ?_ ?_|simp -implicitDefEqProofs only [Ay,qA,cK,bC,cM,aF,aL,qU,Zj,Zs,Zt,Zo,Zk,Zu,reduceIte,reduceCtorEq,qI,AE,AB,iW,Zy,qZ,qC,qT,qK,dY,iU,AD,bI,cG,cV,aX,aW,BC,BU,eO,eQ, *]
  all_goals first
    | exact hb8
    | omega
    | (simp; done)
    | (simp only [decide_eq_true_eq] at *; constructor <;> omega)
    | (rw [In]; simp only [*,Bool.true_and,Bool.false_and,Bool.and_false]; done)
    | skip

end Go.Sak
