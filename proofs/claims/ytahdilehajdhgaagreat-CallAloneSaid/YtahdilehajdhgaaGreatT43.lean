/- Part T43 of the proofs about the program: K43. Conditions: none. -/
import Derived.Test.YtahdilehajdhgaaGreatT30
import Derived.Test.YtahdilehajdhgaaGreatT33
import Derived.Test.YtahdilehajdhgaaGreatT47
open Bool renaming and_false→Q0,and_true→G6,false_and→Q1,true_and→P4
open Int renaming natCast_zero→F1,toNat_natCast→E0,zero_add→Y9
open List renaming reduceReplicate→D1
open Nat renaming reduceAdd→D4,reduceBEq→E1,reduceEqDiff→D0,reduceLT→E2,reduceLeDiff→D3,reduceMul→D6,reduceSub→D5
open Go.Proofs.Tryz renaming prog→D8
namespace Go.Sak
open Go Go.RowKit Go.Proofs
set_option linter.unusedVariables false
set_option linter.unusedSimpArgs false
set_option maxRecDepth 10000
set_option maxHeartbeats 8000000
def Mq:ACode:=(.seq (.reg [o1 95 (.mv 5),o1 4 (.mv 95)]) .ret)
def Mp:ACode:=(.seq (.seq (.reg [o1 76 (.faddr 15 2),o1 77 (.faddr 0 76),o1 78 (.ld 1 false 77),o1 79 (.faddr 15 3),o1 80 (.faddr 0 79),o1 81 (.ld 1 false 80),o1 82 (.bin .neq 78 81),o1 83 (.mv 82),o4 84 (.faddr 15 2) 83,o4 85 (.faddr 1 84) 83,o4 86 (.ld 1 false 85) 83,o4 87 (.faddr 15 3) 83,o4 88 (.faddr 1 87) 83,o4 89 (.ld 1 false 88) 83,o4 90 (.call 68 [86,89]) 83,o4 91 (.not 90) 83,o1 92 (.pick 83 (.const (.bool true)) 91)]) (.cond 92 (.reg [o1 93 (.mv 5),o1 94 (.bin .add 93 (ci 1)),o1 5 (.mv 94)]) .skip)) Mq)
def Mo:ACode:=(.seq (.seq (.reg [o1 57 (.faddr 13 2),o1 58 (.faddr 0 57),o1 59 (.ld 1 false 58),o1 60 (.faddr 13 3),o1 61 (.faddr 0 60),o1 62 (.ld 1 false 61),o1 63 (.bin .neq 59 62),o1 64 (.mv 63),o4 65 (.faddr 13 2) 64,o4 66 (.faddr 1 65) 64,o4 67 (.ld 1 false 66) 64,o4 68 (.faddr 13 3) 64,o4 69 (.faddr 1 68) 64,o4 70 (.ld 1 false 69) 64,o4 71 (.call 68 [67,70]) 64,o4 72 (.not 71) 64,o1 73 (.pick 64 (.const (.bool true)) 72)]) (.cond 73 (.reg [o1 74 (.mv 5),o1 75 (.bin .add 74 (ci 1)),o1 5 (.mv 75)]) .skip)) Mp)
def Mn:ACode:=(.seq (.seq (.reg [o1 49 (.faddr 12 2),o1 50 (.ld 1 false 49),o1 51 (.faddr 12 3),o1 52 (.ld 1 false 51),o1 53 (.call 68 [50,52]),o1 54 (.not 53)]) (.cond 54 (.reg [o1 55 (.mv 5),o1 56 (.bin .add 55 (ci 1)),o1 5 (.mv 56)]) .skip)) Mo)
def Mm:ACode:=(.seq (.seq (.reg [o1 41 (.faddr 11 2),o1 42 (.ld 1 false 41),o1 43 (.faddr 11 3),o1 44 (.ld 1 false 43),o1 45 (.call 68 [42,44]),o1 46 (.not 45)]) (.cond 46 (.reg [o1 47 (.mv 5),o1 48 (.bin .add 47 (ci 1)),o1 5 (.mv 48)]) .skip)) Mn)
def Ml:ACode:=(.seq (.seq (.reg [o1 6 (.mv (ci 0))]) (.block 0 (.loop (.seq (.seq (.reg [o1 14 (.mv 6),o1 15 (.faddr 10 2),o1 16 (.ld 1 false 15),o1 17 (.len 16),o1 18 (.bin .lss 14 17),o1 19 (.mv 18),o3 20 (.mv 6) 19,o3 21 (.faddr 10 3) 19,o3 22 (.ld 1 false 21) 19,o3 23 (.len 22) 19,o3 24 (.bin .lss 20 23) 19,o1 25 (.pick 19 24 (.const (.bool false)))]) (.cond 25 .skip (.exit 0))) (.seq (.block 1 (.seq (.regT [o1 28 (.faddr 10 2),o1 29 (.ld 1 false 28),o1 30 (.mv 6),o1 31 (.iaddr 2 29 30),o1 32 (.ld 2 true 31),o1 33 (.faddr 10 3),o1 34 (.ld 1 false 33),o1 35 (.mv 6),o1 36 (.iaddr 2 34 35),o1 37 (.ld 2 true 36),o1 38 (.eqs true [(.int .i64),(.int .i64)] 32 37)] [(0,5),(1,5),(3,5),(4,5),(0,6),(1,6),(3,6),(4,6),(0,8),(1,8),(3,8),(4,8),(0,9),(1,9),(3,9),(4,9)]) (.cond 38 (.reg [o1 39 (.mv 5),o1 40 (.bin .add 39 (ci 1)),o1 5 (.mv 40)]) .skip))) (.reg [o1 26 (.mv 6),o1 27 (.bin .add 26 (ci 1)),o1 6 (.mv 27)])))))) Mm)
def AL:AFn:=⟨96,(.seq (.reg [o1 2 (.box 33 0),o1 3 (.box 33 1),o1 4 (.mv (ci 0))]) (.seq (.reg [o1 5 (.mv (ci 0))]) (.seq (.seq (.reg [o1 7 (.faddr 7 2),o1 8 (.ld 3 true 7),o1 9 (.faddr 7 3),o1 10 (.ld 3 true 9),o1 11 (.eqs true [(.int .i64),(.int .i64),(.int .i64)] 8 10)]) (.cond 11 (.reg [o1 12 (.mv 5),o1 13 (.bin .add 12 (ci 1)),o1 5 (.mv 13)]) .skip)) Ml))),[(4,none)]⟩
theorem C1:xf D8 30=some AL:=by kernel_rfl
theorem Na (a b:List Slot):∀ n,uE a b n≤n
  | 0=>Nat.le_refl 0
  | n+1=>by have:=Na a b n; simp only [uE]; split <;> omega
theorem Wu (a b:Event):decide (a=b)=(decide (a.ep=b.ep) && decide (a.ln=b.ln)):=by
  cases a; cases b; simp [Bool.decide_and]
def VV (s u:State):Int:=bif decide (s.empty.ep=u.empty.ep) && decide (s.empty.ln=u.empty.ln) then 0 else 1
def VU (s u:State):Int:=(bif decide (s.full.ep=u.full.ep) && decide (s.full.ln=u.full.ln) then 0 else 1)+VV s u
def VT (s u:State):Int:=(bif decide (s.recvs=u.recvs) then 0 else 1)+VU s u
def QJ (s u:State):Int:=(bif decide (s.sends=u.sends) then 0 else 1)+VT s u
theorem Sz (s u:State):fY s u=(bif decide (s.word=u.word) then 0 else 1)+((uE s.slots u.slots (min s.slots.length u.slots.length):Nat):Int)+QJ s u:=by
  unfold QJ VT VU VV
  rw [← Wu,← Wu]
  simp only [fY,Bool.cond_decide]; omega
theorem Cf:∀ (n:Nat) (l:List AV),l.length=n→Mt (nl n []) l
  | 0,[],_=>trivial
  | n+1,x :: l,h=>by rw [dI,mt_none]; exact Cf n l (by simpa using h)
theorem Dd {x y:Int} (h:y=x):Wk (.int .i64 x) (.int .i64 y):=by subst h; exact Wk.refl _
theorem MH {c:Int} (h:0≤c∧c≤2000000000):IntKind.wrap .i64 (c+1)=c+1:=bL (by omega) (by omega)
theorem EL {s u:State} (hs:Bd s 10000000) (hu:Bd u 10000000) {y0 y1 y4:AV} {ys:List AV} {b:Nat} (hb:1≤b) {c:Int} (hc:0≤c∧c≤1000000000+8) {v:Int} (hT:c+0=v) (hl:ys.length=90):vc D8 1 Mq (gP [(4,none)] (gM 1 [] (.int .i64 v,[],[]))) (y0 :: y1 :: .ptr 2 0 0 :: .ptr 3 0 0 :: y4 :: .int .i64 c :: ys) [(2,.rows 33 20 [bR s]),(3,.rows 33 20 [bR u])] b:=by
  have hm:Mt (nl 2 (some (.ptr 2 0 0) :: some (.ptr 3 0 0) :: nl 1 (some (.int .i64 c) :: nl 90 []))) (y0 :: y1 :: .ptr 2 0 0 :: .ptr 3 0 0 :: y4 :: .int .i64 c :: ys):=by
    simp only [dI,dJ,mt_none,mt_some,true_and]; exact Cf _ _ hl
  refine Mt.all (Q:=fun env=>vc D8 1 Mq (gP [(4,none)] (gM 1 [] (.int .i64 v,[],[]))) env [(2,.rows 33 20 [bR s]),(3,.rows 33 20 [bR u])] b) ?_ hm
  have hs1:=hs.all
  have hu1:=hu.all
  have w1:=MH (c:=c) (by omega)
  clear hm hl
  simp only [dL,dK,all_nil,dI,dJ]
  intros
  repeat' with_reducible first|refine aQ (fun h=>?_) (fun h=>?_)|refine bB (fun h=>?_) (fun h=>?_)|refine aF (fun h=>?_) (fun h=>?_)|refine aH (fun h=>?_) (fun h=>?_)|refine FN ?_ ?_ ?_ ?_ rfl ?_|refine aR ?_ ?_|refine bC ?_ ?_|refine bM ?_ ?_|refine IA ?_ ?_ ?_|refine L1 ?_ ?_|refine L2 ?_ ?_|refine L3 ?_ ?_ ?_ ?_|refine L4 ?_ ?_|refine L5 ?_ ?_ ?_ ?_ ?_|refine L6 ?_ ?_ ?_ ?_ ?_|refine P0 (Bc ?_) ?_ ?_ ?_|simp -implicitDefEqProofs only [AL,qA,bN,bD,bO,aJ,aP,qU,D1,D4,D5,D3,D0,D6,reduceIte,reduceCtorEq,qI,E2,E1,cL,E0,bH,qZ,dI,dJ,qC,qT,qK,wC,oG,bS,cJ,cY,F1,Mq, *]
  all_goals first
    | rfl
    | omega
    | (refine Dd ?_; omega)
    | (simp only [Int.add_zero,cond_true,cond_false,G6,Q0,P4,Q1,Y9, *] at hT; omega)
    | (simp -implicitDefEqProofs only [qA,bN,bD,bO,aJ,aP,qU,D1,D4,D5,D3,D0,D6,reduceIte,reduceCtorEq,qI,E2,E1,qZ,dI,dJ,qC]; first | done | (simp; done))
    | skip

theorem EK {s u:State} (hs:Bd s 10000000) (hu:Bd u 10000000) {y0 y1 y4:AV} {ys:List AV} {b:Nat} (hb:1≤b) {c:Int} (hc:0≤c∧c≤1000000000+7) {v:Int} (hT:c+VV s u=v) (hl:ys.length=90):vc D8 1 Mp (gP [(4,none)] (gM 1 [] (.int .i64 v,[],[]))) (y0 :: y1 :: .ptr 2 0 0 :: .ptr 3 0 0 :: y4 :: .int .i64 c :: ys) [(2,.rows 33 20 [bR s]),(3,.rows 33 20 [bR u])] b:=by
  have hm:Mt (nl 2 (some (.ptr 2 0 0) :: some (.ptr 3 0 0) :: nl 1 (some (.int .i64 c) :: nl 90 []))) (y0 :: y1 :: .ptr 2 0 0 :: .ptr 3 0 0 :: y4 :: .int .i64 c :: ys):=by
    simp only [dI,dJ,mt_none,mt_some,true_and]; exact Cf _ _ hl
  refine Mt.all (Q:=fun env=>vc D8 1 Mp (gP [(4,none)] (gM 1 [] (.int .i64 v,[],[]))) env [(2,.rows 33 20 [bR s]),(3,.rows 33 20 [bR u])] b) ?_ hm
  have hs1:=hs.all
  have hu1:=hu.all
  have w1:=MH (c:=c) (by omega)
  clear hm hl
  simp only [dL,dK,all_nil,dI,dJ]
  intros
  repeat' with_reducible first|refine aQ (fun h=>?_) (fun h=>?_)|refine bB (fun h=>?_) (fun h=>?_)|refine aF (fun h=>?_) (fun h=>?_)|refine aH (fun h=>?_) (fun h=>?_)|refine FN ?_ ?_ ?_ ?_ rfl ?_|refine aR ?_ ?_|refine bC ?_ ?_|refine bM ?_ ?_|refine IA ?_ ?_ ?_|refine L1 ?_ ?_|refine L2 ?_ ?_|refine L3 ?_ ?_ ?_ ?_|refine L4 ?_ ?_|refine L5 ?_ ?_ ?_ ?_ ?_|refine L6 ?_ ?_ ?_ ?_ ?_|refine EL hs hu ?_ ?_ ?_ ?_|refine P0 (Bc ?_) ?_ ?_ ?_|simp -implicitDefEqProofs only [AL,qA,bN,bD,bO,aJ,aP,qU,D1,D4,D5,D3,D0,D6,reduceIte,reduceCtorEq,qI,E2,E1,cL,E0,bH,qZ,dI,dJ,qC,qT,qK,wC,oG,bS,cJ,cY,F1,Mp, *]
  all_goals first
    | rfl
    | omega
    | (refine Dd ?_; omega)
    | (simp only [VV,cond_true,cond_false,G6,Q0,P4,Q1,Y9, *] at hT; omega)
    | (simp -implicitDefEqProofs only [qA,bN,bD,bO,aJ,aP,qU,D1,D4,D5,D3,D0,D6,reduceIte,reduceCtorEq,qI,E2,E1,qZ,dI,dJ,qC]; first | done | (simp; done))
    | skip

theorem EJ {s u:State} (hs:Bd s 10000000) (hu:Bd u 10000000) {y0 y1 y4:AV} {ys:List AV} {b:Nat} (hb:1≤b) {c:Int} (hc:0≤c∧c≤1000000000+6) {v:Int} (hT:c+VU s u=v) (hl:ys.length=90):vc D8 1 Mo (gP [(4,none)] (gM 1 [] (.int .i64 v,[],[]))) (y0 :: y1 :: .ptr 2 0 0 :: .ptr 3 0 0 :: y4 :: .int .i64 c :: ys) [(2,.rows 33 20 [bR s]),(3,.rows 33 20 [bR u])] b:=by
  have hm:Mt (nl 2 (some (.ptr 2 0 0) :: some (.ptr 3 0 0) :: nl 1 (some (.int .i64 c) :: nl 90 []))) (y0 :: y1 :: .ptr 2 0 0 :: .ptr 3 0 0 :: y4 :: .int .i64 c :: ys):=by
    simp only [dI,dJ,mt_none,mt_some,true_and]; exact Cf _ _ hl
  refine Mt.all (Q:=fun env=>vc D8 1 Mo (gP [(4,none)] (gM 1 [] (.int .i64 v,[],[]))) env [(2,.rows 33 20 [bR s]),(3,.rows 33 20 [bR u])] b) ?_ hm
  have hs1:=hs.all
  have hu1:=hu.all
  have w1:=MH (c:=c) (by omega)
  clear hm hl
  simp only [dL,dK,all_nil,dI,dJ]
  intros
  repeat' with_reducible first|refine aQ (fun h=>?_) (fun h=>?_)|refine bB (fun h=>?_) (fun h=>?_)|refine aF (fun h=>?_) (fun h=>?_)|refine aH (fun h=>?_) (fun h=>?_)|refine FN ?_ ?_ ?_ ?_ rfl ?_|refine aR ?_ ?_|refine bC ?_ ?_|refine bM ?_ ?_|refine IA ?_ ?_ ?_|refine L1 ?_ ?_|refine L2 ?_ ?_|refine L3 ?_ ?_ ?_ ?_|refine L4 ?_ ?_|refine L5 ?_ ?_ ?_ ?_ ?_|refine L6 ?_ ?_ ?_ ?_ ?_|refine EK hs hu ?_ ?_ ?_ ?_|refine P0 (Bc ?_) ?_ ?_ ?_|simp -implicitDefEqProofs only [AL,qA,bN,bD,bO,aJ,aP,qU,D1,D4,D5,D3,D0,D6,reduceIte,reduceCtorEq,qI,E2,E1,cL,E0,bH,qZ,dI,dJ,qC,qT,qK,wC,oG,bS,cJ,cY,F1,Mo, *]
  all_goals first
    | rfl
    | omega
    | (refine Dd ?_; omega)
    | (simp only [VU,cond_true,cond_false,G6,Q0,P4,Q1,Y9, *] at hT; omega)
    | (simp -implicitDefEqProofs only [qA,bN,bD,bO,aJ,aP,qU,D1,D4,D5,D3,D0,D6,reduceIte,reduceCtorEq,qI,E2,E1,qZ,dI,dJ,qC]; first | done | (simp; done))
    | skip

theorem EI {s u:State} (hs:Bd s 10000000) (hu:Bd u 10000000) {y0 y1 y4:AV} {ys:List AV} {b:Nat} (hb:1≤b) {c:Int} (hc:0≤c∧c≤1000000000+5) {v:Int} (hT:c+VT s u=v) (hl:ys.length=90):vc D8 1 Mn (gP [(4,none)] (gM 1 [] (.int .i64 v,[],[]))) (y0 :: y1 :: .ptr 2 0 0 :: .ptr 3 0 0 :: y4 :: .int .i64 c :: ys) [(2,.rows 33 20 [bR s]),(3,.rows 33 20 [bR u])] b:=by
  have hm:Mt (nl 2 (some (.ptr 2 0 0) :: some (.ptr 3 0 0) :: nl 1 (some (.int .i64 c) :: nl 90 []))) (y0 :: y1 :: .ptr 2 0 0 :: .ptr 3 0 0 :: y4 :: .int .i64 c :: ys):=by
    simp only [dI,dJ,mt_none,mt_some,true_and]; exact Cf _ _ hl
  refine Mt.all (Q:=fun env=>vc D8 1 Mn (gP [(4,none)] (gM 1 [] (.int .i64 v,[],[]))) env [(2,.rows 33 20 [bR s]),(3,.rows 33 20 [bR u])] b) ?_ hm
  have hs1:=hs.all
  have hu1:=hu.all
  have w1:=MH (c:=c) (by omega)
  clear hm hl
  simp only [dL,dK,all_nil,dI,dJ]
  intros
  repeat' with_reducible first|refine aQ (fun h=>?_) (fun h=>?_)|refine bB (fun h=>?_) (fun h=>?_)|refine aF (fun h=>?_) (fun h=>?_)|refine aH (fun h=>?_) (fun h=>?_)|refine FN ?_ ?_ ?_ ?_ rfl ?_|refine aR ?_ ?_|refine bC ?_ ?_|refine bM ?_ ?_|refine IA ?_ ?_ ?_|refine L1 ?_ ?_|refine L2 ?_ ?_|refine L3 ?_ ?_ ?_ ?_|refine L4 ?_ ?_|refine L5 ?_ ?_ ?_ ?_ ?_|refine L6 ?_ ?_ ?_ ?_ ?_|refine EJ hs hu ?_ ?_ ?_ ?_|refine P0 (Bc ?_) ?_ ?_ ?_|simp -implicitDefEqProofs only [AL,qA,bN,bD,bO,aJ,aP,qU,D1,D4,D5,D3,D0,D6,reduceIte,reduceCtorEq,qI,E2,E1,cL,E0,bH,qZ,dI,dJ,qC,qT,qK,wC,oG,bS,cJ,cY,F1,Mn, *]
  all_goals first
    | rfl
    | omega
    | (refine Dd ?_; omega)
    | (simp only [VT,cond_true,cond_false,G6,Q0,P4,Q1,Y9, *] at hT; omega)
    | (simp -implicitDefEqProofs only [qA,bN,bD,bO,aJ,aP,qU,D1,D4,D5,D3,D0,D6,reduceIte,reduceCtorEq,qI,E2,E1,qZ,dI,dJ,qC]; first | done | (simp; done))
    | skip

theorem EH {s u:State} (hs:Bd s 10000000) (hu:Bd u 10000000) {y0 y1 y4:AV} {ys:List AV} {b:Nat} (hb:1≤b) {c:Int} (hc:0≤c∧c≤1000000000+4) {v:Int} (hT:c+QJ s u=v) (hl:ys.length=90):vc D8 1 Mm (gP [(4,none)] (gM 1 [] (.int .i64 v,[],[]))) (y0 :: y1 :: .ptr 2 0 0 :: .ptr 3 0 0 :: y4 :: .int .i64 c :: ys) [(2,.rows 33 20 [bR s]),(3,.rows 33 20 [bR u])] b:=by
  have hm:Mt (nl 2 (some (.ptr 2 0 0) :: some (.ptr 3 0 0) :: nl 1 (some (.int .i64 c) :: nl 90 []))) (y0 :: y1 :: .ptr 2 0 0 :: .ptr 3 0 0 :: y4 :: .int .i64 c :: ys):=by
    simp only [dI,dJ,mt_none,mt_some,true_and]; exact Cf _ _ hl
  refine Mt.all (Q:=fun env=>vc D8 1 Mm (gP [(4,none)] (gM 1 [] (.int .i64 v,[],[]))) env [(2,.rows 33 20 [bR s]),(3,.rows 33 20 [bR u])] b) ?_ hm
  have hs1:=hs.all
  have hu1:=hu.all
  have w1:=MH (c:=c) (by omega)
  clear hm hl
  simp only [dL,dK,all_nil,dI,dJ]
  intros
  repeat' with_reducible first|refine aQ (fun h=>?_) (fun h=>?_)|refine bB (fun h=>?_) (fun h=>?_)|refine aF (fun h=>?_) (fun h=>?_)|refine aH (fun h=>?_) (fun h=>?_)|refine FN ?_ ?_ ?_ ?_ rfl ?_|refine aR ?_ ?_|refine bC ?_ ?_|refine bM ?_ ?_|refine IA ?_ ?_ ?_|refine L1 ?_ ?_|refine L2 ?_ ?_|refine L3 ?_ ?_ ?_ ?_|refine L4 ?_ ?_|refine L5 ?_ ?_ ?_ ?_ ?_|refine L6 ?_ ?_ ?_ ?_ ?_|refine EI hs hu ?_ ?_ ?_ ?_|refine P0 (Bc ?_) ?_ ?_ ?_|simp -implicitDefEqProofs only [AL,qA,bN,bD,bO,aJ,aP,qU,D1,D4,D5,D3,D0,D6,reduceIte,reduceCtorEq,qI,E2,E1,cL,E0,bH,qZ,dI,dJ,qC,qT,qK,wC,oG,bS,cJ,cY,F1,Mm, *]
  all_goals first
    | rfl
    | omega
    | (refine Dd ?_; omega)
    | (simp only [QJ,cond_true,cond_false,G6,Q0,P4,Q1,Y9, *] at hT; omega)
    | (simp -implicitDefEqProofs only [qA,bN,bD,bO,aJ,aP,qU,D1,D4,D5,D3,D0,D6,reduceIte,reduceCtorEq,qI,E2,E1,qZ,dI,dJ,qC]; first | done | (simp; done))
    | skip

theorem EG {s u:State} (hs:Bd s 10000000) (hu:Bd u 10000000) {y0 y1 y4:AV} {ys:List AV} {b:Nat} (hb:18≤b) {n0:Int} (hn0:0≤n0∧n0≤1) {v:Int} (hT:n0+((uE s.slots u.slots (min s.slots.length u.slots.length):Nat):Int)+QJ s u=v) (hl:ys.length=90):vc D8 1 Ml (gP [(4,none)] (gM 1 [] (.int .i64 v,[],[]))) (y0 :: y1 :: .ptr 1 0 0 :: .ptr 17 0 0 :: y4 :: .int .i64 n0 :: ys) [(1,.rows 33 20 [bR s]),(17,.rows 33 20 [bR u])] b:=by
  have hm:Mt (nl 2 (some (.ptr 1 0 0) :: some (.ptr 17 0 0) :: nl 1 (some (.int .i64 n0) :: nl 90 []))) (y0 :: y1 :: .ptr 1 0 0 :: .ptr 17 0 0 :: y4 :: .int .i64 n0 :: ys):=by
    simp only [dI,dJ,mt_none,mt_some,true_and]; exact Cf _ _ hl
  refine Mt.all (Q:=fun env=>vc D8 1 Ml (gP [(4,none)] (gM 1 [] (.int .i64 v,[],[]))) env [(1,.rows 33 20 [bR s]),(17,.rows 33 20 [bR u])] b) ?_ hm
  have hs1:=hs.all
  have hu1:=hu.all
  clear hm hl
  simp only [dL,dK,all_nil,dI,dJ]
  intros
  repeat' with_reducible first|refine aQ (fun h=>?_) (fun h=>?_)|refine bB (fun h=>?_) (fun h=>?_)|refine aF (fun h=>?_) (fun h=>?_)|refine aH (fun h=>?_) (fun h=>?_)|refine FN ?_ ?_ ?_ ?_ rfl ?_|refine aR ?_ ?_|refine bC ?_ ?_|refine bM ?_ ?_|refine IA ?_ ?_ ?_|refine L1 ?_ ?_|refine L2 ?_ ?_|refine L3 ?_ ?_ ?_ ?_|refine L4 ?_ ?_|refine L5 ?_ ?_ ?_ ?_ ?_|refine L6 ?_ ?_ ?_ ?_ ?_|refine P0 (Bc ?_) ?_ ?_ ?_|simp -implicitDefEqProofs only [AL,qA,bN,bD,bO,aJ,aP,qU,D1,D4,D5,D3,D0,D6,reduceIte,reduceCtorEq,qI,E2,E1,cL,E0,bH,qZ,dI,dJ,qC,qT,qK,wC,oG,bS,cJ,cY,F1,Ml, *]
  refine oN 5 (fun t:Nat×Int=>nl 2 (some (.ptr 2 0 0) :: some (.ptr 3 0 0) :: nl 1 (some (.int .i64 t.2) :: some (.int .i64 t.1) :: nl 89 []))) (fun _=>[(2,.rows 33 20 [bR s]),(3,.rows 33 20 [bR u])]) (fun t=>t.1≤min s.slots.length u.slots.length∧t.2=n0+(uE s.slots u.slots t.1:Nat)) (fun t=>min s.slots.length u.slots.length - t.1) [] [(1,2),(17,3)] (0,n0) (by omega) ?_ ?_ ?_ ?_ ?_ ?_
  rotate_right
  · rintro ⟨i,c⟩ ⟨hi,hJ⟩
    simp only [] at hi hJ
    have hc:=Na s.slots u.slots i
    have hc0:0≤c∧c≤1000000 * 100:=by omega
    have w1:=MH (c:=c) (by omega)
    have hJ2:∀ k:Nat,k=i→c=n0+(uE s.slots u.slots k:Nat):=fun k e=>by rw [e]; exact hJ
    clear hJ
    simp only [dL,dK,all_nil,dI,dJ]
    intros
    repeat' with_reducible first|refine aQ (fun h=>?_) (fun h=>?_)|refine bB (fun h=>?_) (fun h=>?_)|refine aF (fun h=>?_) (fun h=>?_)|refine aH (fun h=>?_) (fun h=>?_)|refine FN ?_ ?_ ?_ ?_ rfl ?_|refine aR ?_ ?_|refine bC ?_ ?_|refine bM ?_ ?_|refine IA ?_ ?_ ?_|refine L1 ?_ ?_|refine L2 ?_ ?_|refine L3 ?_ ?_ ?_ ?_|refine L4 ?_ ?_|refine L5 ?_ ?_ ?_ ?_ ?_|refine L6 ?_ ?_ ?_ ?_ ?_|refine P0 (Bc ?_) ?_ ?_ ?_|refine eK (d:=default) ?_ ?_|refine gV [] [(2,2),(3,3)] (i+1,n0+(uE s.slots u.slots (i+1):Nat)) ?_ ?_ ?_ ?_ ?_ ?_|refine EH hs hu ?_ ?_ ?_ ?_|simp -implicitDefEqProofs only [AL,qA,bN,bD,bO,aJ,aP,qU,D1,D4,D5,D3,D0,D6,reduceIte,reduceCtorEq,qI,E2,E1,cL,E0,bH,qZ,dI,dJ,qC,qT,qK,wC,oG,bS,cJ,cY,F1, *]
    all_goals first
      | rfl
      | omega
      | (have hJ:=hJ2 i rfl
         simp only [decide_eq_true_eq,decide_eq_false_iff_not] at *
         first
         | omega
         | (refine ⟨?_,bL (by omega) (by omega)⟩
            simp only [uE, *,reduceIte,Nat.add_zero]
            first
            | done
            | omega
            | (rw [bL (by omega) (by omega)]; omega))
         | (rw [show min s.slots.length u.slots.length=i from by omega] at hT; omega))
      | (simp -implicitDefEqProofs only [qA,bN,bD,bO,aJ,aP,qU,D1,D4,D5,D3,D0,D6,reduceIte,reduceCtorEq,qI,E2,E1,qZ,dI,dJ,qC]; first | done | (simp; done))
      | skip
  all_goals first
    | omega
    | (simp -implicitDefEqProofs only [qA,bN,bD,bO,aJ,aP,qU,D1,D4,D5,D3,D0,D6,reduceIte,reduceCtorEq,qI,E2,E1,qZ,dI,dJ,qC]; first | done | (simp; done))
    | exact ⟨Nat.zero_le _,by simp [uE]⟩
    | skip

theorem uG {s u:State} (hs:Bd s 10000000) (hu:Bd u 10000000):cX D8 30 [.agg (bR s),.agg (bR u)] (.int .i64 (fY s u),[],[]):=by
  have hT:=(Sz s u).symm
  generalize fY s u=v at hT ⊢
  cases hW:decide (s.word=u.word)
  all_goals
    rw [hW] at hT
    simp only [cond_true,cond_false] at hT
    refine aI bP C1 (by simp [AL]) fun hw _=>?_
    clear hw
    repeat' with_reducible first|refine aQ (fun h=>?_) (fun h=>?_)|refine bB (fun h=>?_) (fun h=>?_)|refine aF (fun h=>?_) (fun h=>?_)|refine aH (fun h=>?_) (fun h=>?_)|refine FN ?_ ?_ ?_ ?_ rfl ?_|refine aR ?_ ?_|refine bC ?_ ?_|refine bM ?_ ?_|refine IA ?_ ?_ ?_|refine L1 ?_ ?_|refine L2 ?_ ?_|refine L3 ?_ ?_ ?_ ?_|refine L4 ?_ ?_|refine L5 ?_ ?_ ?_ ?_ ?_|refine L6 ?_ ?_ ?_ ?_ ?_|refine EG hs hu ?_ ?_ ?_ ?_|simp -implicitDefEqProofs only [AL,qA,bN,bD,bO,aJ,aP,qU,D1,D4,D5,D3,D0,D6,reduceIte,reduceCtorEq,qI,E2,E1,cL,E0,bH,qZ,dI,dJ,qC,qT,qK,wC,oG,bS,cJ,cY,F1,hW, *]
    all_goals first
      | rfl
      | omega
      | exact hT
      | (rw [show IntKind.wrap .i64 (0+1)=1 from by decide]; exact hT)
      | decide
      | (simp -implicitDefEqProofs only [qA,bN,bD,bO,aJ,aP,qU,D1,D4,D5,D3,D0,D6,reduceIte,reduceCtorEq,qI,E2,E1,qZ,dI,dJ,qC]; first | done | (simp; done))
      | skip

end Go.Sak
