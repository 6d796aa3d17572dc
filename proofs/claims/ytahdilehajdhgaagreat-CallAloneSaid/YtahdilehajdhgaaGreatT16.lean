/- Part T16 of the proofs about the program: K8, K9, K10, K11, K12, K13, K14. Conditions: none. -/
import Derived.Test.YtahdilehajdhgaaGreatT13
import Derived.Test.YtahdilehajdhgaaGreatT14
open Go.Sak.ACK renaming of→F7
open Go.Sak.ACV renaming of→F2
open Go.Sak.AV renaming isInt→M7,wf→M5
open Int renaming natCast_one→P6,natCast_zero→F1,one_ne_zero→f0,reduceEq→F4,reduceNe→F5,toNat_natCast→E0
open List renaming flatMap_cons→J4,flatMap_nil→J8,length_eraseIdx→S9,length_map→G7,reduceReplicate→D1,take_of_length_le→F3
open Nat renaming le_of_ble_eq_true→M4,le_refl→G1,reduceAdd→D4,reduceBEq→E1,reduceEqDiff→D0,reduceLT→E2,reduceLeDiff→D3,reduceMul→D6,reduceSub→D5,zero_le→M6
open Go.Proofs.Tryz renaming prog→D8
open Go.Sak.Wk renaming nil→P5,of_eq→H2,refl→G3,tup→V2
namespace Go.Sak
open Go Go.RowKit Go.Proofs
set_option linter.unusedVariables false
set_option linter.unusedSimpArgs false
set_option maxRecDepth 10000
set_option maxHeartbeats 8000000
def UY:AFn:=⟨32,(.seq (.reg [o1 3 (.box 23 0),o1 6 (.mv (ci 0))]) (.seq (.block 0 (.seq (.reg [o1 8 (.mv 1),o1 9 (.bin .lss 8 (ci 0)),o1 10 (.mv 9),o4 11 (.mv 1) 10,o4 12 (.faddr 1 3) 10,o4 13 (.ld 1 false 12) 10,o4 14 (.bin .geq 11 13) 10,o1 15 (.pick 10 (.const (.bool true)) 14),o1 7 (.mv 15)]) (.cond 7 (.seq (.reg [o1 6 (.mv (ci 123))]) .ret) (.seq (.reg [o1 17 (.mv 2),o1 18 (.call 65 [17]),o1 19 (.not 18),o1 16 (.mv 19)]) (.cond 16 (.seq (.reg [o1 6 (.mv (ci 190))]) .ret) (.seq (.reg [o1 21 (.faddr 6 3),o1 22 (.ld 1 false 21),o1 23 (.mv 22),o3 24 (.mv 2) 23,o3 25 (.call 75 [24]) 23,o3 26 (.bin .eql 25 (ci 2)) 23,o1 27 (.pick 23 26 (.const (.bool false))),o1 28 (.mv 27),o3 29 (.mv 1) 28,o3 30 (.bin .gtr 29 (ci 0)) 28,o1 31 (.pick 28 30 (.const (.bool false))),o1 20 (.mv 31)]) (.cond 20 (.seq (.reg [o1 6 (.mv (ci 123))]) .ret) .skip))))))) (.seq (.reg [o1 6 (.mv (ci 0))]) .ret))),[(6,none)]⟩
theorem ZC:xf D8 78=some UY:=by kernel_rfl
theorem wG {zV xO:Int} {rM zW:Int} {mV rN:Int} {iL:Bool} {id kind:Int}  : cX D8 78 [.agg [.int .i64 zV,.int .i64 xO,.int .i64 rM,.int .i64 zW,.int .i64 mV,.int .i64 rN,.bool iL],.int .i64 id,.int .i64 kind] ((.int .i64 (uJ xO iL id kind)),[],[]):=by
  refine aI bP ZC (by simp [UY]) fun hw _=>?_
  simp only [iR,M5,aY] at hw
  repeat' with_reducible first|refine aQ (fun h=>?_) (fun h=>?_)|refine bB (fun h=>?_) (fun h=>?_)|refine aF (fun h=>?_) (fun h=>?_)|refine aH (fun h=>?_) (fun h=>?_)|refine bJ ?_ ?_ ?_ ?_|refine aR ?_ ?_|refine bC ?_ ?_|refine bM ?_ ?_|refine P0 (lQ) ?_ ?_ ?_|refine F2 (lQ) ?_ ?_ ?_|refine F7 (lQ) ?_ ?_|refine P0 (gI) ?_ ?_ ?_|refine F2 (gI) ?_ ?_ ?_|refine F7 (gI) ?_ ?_|simp -implicitDefEqProofs only [UY,qA,cS,cW,aJ,aP,qU,D1,D4,D5,D3,D0,D6,reduceIte,reduceCtorEq, *]
  all_goals first
    | (simp; done)
    | exact bE
    | exact bE.symm
    | grind [aY,bL,bI,uJ]

theorem OV (k:IntKind) (x y:Int):uU .shl k x y=if y<0 then none else some (.int k (k.wrap (x * 2 ^ (min y.toNat k.bits)))):=rfl
theorem Nm {c:Config} (h:eG c=0):1≤c.lg∧c.lg≤6:=by
  unfold eG at h
  split at h
  · rename_i hc; simp [dT,cD] at hc; omega
  · cases h
theorem Wg {c:Config} (h:eG c=0):IntKind.wrap .i64 (1 * 2 ^ (min c.lg.toNat (IntKind.bits .i64)))=fL c:=by
  obtain ⟨h1,h2⟩:=Nm h
  have hc:dT c=true:=by
    unfold eG at h
    split at h
    · assumption
    · cases h
  rw [fL,if_pos hc]
  have:c.lg=1∨c.lg=2∨c.lg=3∨c.lg=4∨c.lg=5∨c.lg=6:=by omega
  rcases this with e | e | e | e | e | e <;> rw [e] <;> decide
theorem Ra {c:Config} (h:eG c=0):IntKind.wrap .i64 (2 ^ (min c.lg.toNat (IntKind.bits .i64)))=fL c:=by simpa using Wg h
theorem ED {c:Config} (h:¬ eG c=0):fL c=0:=by
  unfold eG at h
  split at h
  · exact absurd rfl h
  · rename_i hc; simp [fL,hc]
def UK:AFn:=⟨9,(.seq (.reg [o1 1 (.box 23 0),o1 2 (.mv (ci 0))]) (.seq (.seq (.reg [o1 3 (.ld 7 true 1),o1 4 (.call 76 [3]),o1 5 (.bin .neq 4 (ci 0))]) (.cond 5 (.seq (.reg [o1 2 (.mv (ci 0))]) .ret) .skip)) (.seq (.reg [o1 6 (.faddr 0 1),o1 7 (.ld 1 false 6),o1 8 (.bin .shl (ci 1) 7),o1 2 (.mv 8)]) .ret))),[(2,none)]⟩
theorem YM:xf D8 49=some UK:=by kernel_rfl
theorem Vv {zV xO:Int} {rM zW:Int} {mV rN:Int} {iL:Bool}  : cX D8 49 [.agg [.int .i64 zV,.int .i64 xO,.int .i64 rM,.int .i64 zW,.int .i64 mV,.int .i64 rN,.bool iL]] ((.int .i64 (fL (Config.mk zV xO rM zW mV rN iL))),[],[]):=by
  refine aI bP YM (by simp [UK]) fun hw _=>?_
  simp only [iR,M5,aY] at hw
  repeat' with_reducible first|refine aQ (fun h=>?_) (fun h=>?_)|refine bB (fun h=>?_) (fun h=>?_)|refine aF (fun h=>?_) (fun h=>?_)|refine aH (fun h=>?_) (fun h=>?_)|refine bJ ?_ ?_ ?_ ?_|refine aR ?_ ?_|refine bC ?_ ?_|refine bM ?_ ?_|refine P0 (wF) ?_ ?_ ?_|refine F2 (wF) ?_ ?_ ?_|refine F7 (wF) ?_ ?_|simp -implicitDefEqProofs only [UK,qA,cS,cW,aJ,aP,qU,D1,D4,D5,D3,D0,D6,reduceIte,reduceCtorEq,OV, *]
  all_goals (try simp only [decide_eq_true_eq,decide_eq_false_iff_not,Bool.not_eq_true,Bool.not_eq_false] at *)
  all_goals (try (have hlg:=Nm (by assumption); simp only [] at hlg))
  all_goals (try (rw [ED (by assumption)]; done))
  all_goals (try (have hsh:=Ra (by assumption); simp only [] at hsh))
  all_goals first
    | (simp; done)
    | exact bE
    | exact bE.symm
    | grind [aY,bL,bI]

set_option maxHeartbeats 8000000
def Qj:AFn:=⟨42,(.seq (.reg [o1 8 (.mv (.const .slnil)),o1 9 (.mv (ci 0))]) (.seq (.reg [o1 11 (.mv 0),o1 12 (.len 11),o1 13 (.mkslice 107 2 [(.int .i64 0),(.int .i64 0)] 16 12 12),o1 10 (.mv 13)]) (.seq (.reg [o1 14 (.mv 10),o1 15 (.mv 0),o1 16 (.cpy 2 14 15)]) (.seq (.block 0 (.seq (.reg [o1 18 (.mv 1),o1 19 (.bin .lss 18 (ci 0)),o1 20 (.mv 19),o4 21 (.mv 0) 20,o4 22 (.call 53 [21]) 20,o4 23 (.not 22) 20,o1 24 (.pick 20 (.const (.bool true)) 23),o1 17 (.mv 24)]) (.cond 17 (.seq (.reg [o1 25 (.mv 10),o1 8 (.mv 25),o1 9 (.mv (ci 40))]) .ret) (.seq (.reg [o1 27 (.mv 0),o1 28 (.mv 1),o1 29 (.call 295 [27,28]),o1 30 (.not 29),o1 26 (.mv 30)]) (.cond 26 (.seq (.reg [o1 31 (.mv 10),o1 32 (.mv 2),o1 8 (.mv 31),o1 9 (.mv 32)]) .ret) .skip))))) (.seq (.reg [o1 33 (.mv 3),o1 34 (.mv 10),o1 35 (.mv 1),o1 36 (.mv 0),o1 37 (.len 36),o1 38 (.call 98 [35,37]),o1 39 (.iaddr 2 34 38),o1 40 (.callv 33 [39])]) (.seq (.reg [o1 41 (.mv 10),o1 8 (.mv 41),o1 9 (.mv (ci 0))]) .ret)))))),[(8,none),(9,none)]⟩
theorem HL:xf D8 282=some Qj:=by kernel_rfl
theorem Ye:Qj.code.lf=true:=rfl
def DD:AFn:=⟨7,(.reg [o1 3 (.mv 0),o1 4 (.ld 1 false 1),o1 5 (.nilchk 3),o1 6 (.faddr 1 5),o2 (.st 1 6 4)]),[]⟩
theorem TX:xf D8 283=some DD:=by kernel_rfl
theorem PX:DD.code.lf=true:=rfl
def DF:AFn:=⟨7,(.reg [o1 3 (.mv 0),o1 4 (.nilchk 3),o1 5 (.faddr 1 4),o1 6 (.ld 1 false 5),o2 (.st 1 1 6)]),[]⟩
theorem TZ:xf D8 288=some DF:=by kernel_rfl
theorem PZ:DF.code.lf=true:=rfl
def DE:AFn:=⟨16,(.seq (.seq (.reg [o1 5 (.ld 1 false 1),o1 6 (.bin .gtr 5 (ci 1099511627776))]) (.cond 6 (.seq (.reg [o2 (.st 1 2 (ci 40))]) .ret) .skip)) (.regT [o1 7 (.mv 0),o1 8 (.nilchk 7),o1 9 (.faddr 0 8),o1 10 (.ld 1 false 9),o1 11 (.ld 1 false 3),o1 12 (.len 11),o1 13 (.bin .add 10 12),o1 14 (.nilchk 7),o1 15 (.faddr 0 14),o2 (.st 1 15 13)] [(1,4),(2,4),(3,4),(1,5),(2,5),(3,5)])),[]⟩
theorem TY:xf D8 286=some DE:=by kernel_rfl
theorem PY:DE.code.lf=true:=rfl
def CE:AFn:=⟨14,(.seq (.reg [o1 5 (.box 3 2),o1 6 (.mv (.const .slnil)),o1 7 (.mv (ci 0))]) (.seq (.reg [o1 8 (.mv 0),o1 9 (.mv 1),o1 10 (.mkfn (.func 283) [] [5]),o1 11 (.call 282 [8,9,(ci 30),10]),o1 12 (.ext 11 0),o1 13 (.ext 11 1),o1 6 (.mv 12),o1 7 (.mv 13)]) .ret)),[(6,none),(7,none)]⟩
theorem SY:xf D8 252=some CE:=by kernel_rfl
theorem Ky {l:List Slot} {p val:Int} (hl:l.length≤1000000000):cX D8 252 [.slv 2 (l.map cU),.int .i64 p,.int .i64 val] (.tup [.slv 2 ((gO l p val).1.map cU),.int .i64 (gO l p val).2],[],[]):=by
  refine aI bP SY (by simp [CE]) fun hw _=>?_
  simp only [iR,M5,aY,G7] at hw
  repeat' with_reducible first|refine aQ (fun h=>?_) (fun h=>?_)|refine bB (fun h=>?_) (fun h=>?_)|refine aF (fun h=>?_) (fun h=>?_)|refine aH (fun h=>?_) (fun h=>?_)|refine FN ?_ ?_ ?_ ?_ rfl ?_|refine aR ?_ ?_|refine bC ?_ ?_|refine bM ?_ ?_|refine I0 bP HL Ye ?_ ?_ ?_ ?_ ?_|refine I0 bP TX PX ?_ ?_ ?_ ?_ ?_|refine IA ?_ ?_ ?_|refine L1 ?_ ?_|refine L2 ?_ ?_|refine L3 ?_ ?_ ?_ ?_|refine L4 ?_ ?_|refine L5 ?_ ?_ ?_ ?_ ?_|refine L6 ?_ ?_ ?_ ?_ ?_|refine P0 (nR ?_) ?_ ?_ ?_|refine F2 (nR ?_) ?_ ?_ ?_|refine F7 (nR ?_) ?_ ?_|refine P0 (qG ?_) ?_ ?_ ?_|refine F2 (qG ?_) ?_ ?_ ?_|refine F7 (qG ?_) ?_ ?_|refine P0 (lR) ?_ ?_ ?_|refine F2 (lR) ?_ ?_ ?_|refine F7 (lR) ?_ ?_|simp -implicitDefEqProofs only [CE,qA,bN,bD,bO,aJ,aP,qU,D1,D4,D5,D3,D0,D6,reduceIte,reduceCtorEq,qI,E2,E1,Qj,DD,E0,eW,mA, *]
  all_goals (have hA:=kV p l.length; have hB:=kU p l.length)
  all_goals first
    | (simp at hl ⊢; omega)
    | (refine H2 ?_; grind [gO,hP,dA,jM,aY,bL])
    | grind [gO,hP,dA,jM,aY,bL,bI]
    | skip

def CU:AFn:=⟨15,(.seq (.reg [o1 4 (.alloc 3 [(.int .i64 0)]),o1 5 (.mv (ci 0))]) (.seq (.reg [o1 7 (.mv 0),o1 8 (.mv 1),o1 9 (.mkfn (.func 288) [] [4]),o1 10 (.call 282 [7,8,(ci 40),9]),o1 6 (.mv 10),o1 11 (.ext 6 0),o1 12 (.ext 6 1),o1 5 (.mv 12)]) (.seq (.reg [o1 13 (.ld 1 false 4),o1 14 (.mv 5),o2 (.st 1 4 13),o1 5 (.mv 14)]) .ret))),[(4,some (1,false)),(5,none)]⟩
theorem TM:xf D8 271=some CU:=by kernel_rfl
theorem La {l:List Slot} {p:Int} (hl:l.length≤1000000000):cX D8 271 [.slv 2 (l.map cU),.int .i64 p] (.tup [.int .i64 (tD l p).1,.int .i64 (tD l p).2],[],[]):=by
  refine aI bP TM (by simp [CU]) fun hw _=>?_
  simp only [iR,M5,aY,G7] at hw
  repeat' with_reducible first|refine aQ (fun h=>?_) (fun h=>?_)|refine bB (fun h=>?_) (fun h=>?_)|refine aF (fun h=>?_) (fun h=>?_)|refine aH (fun h=>?_) (fun h=>?_)|refine FN ?_ ?_ ?_ ?_ rfl ?_|refine aR ?_ ?_|refine bC ?_ ?_|refine bM ?_ ?_|refine I0 bP HL Ye ?_ ?_ ?_ ?_ ?_|refine I0 bP TZ PZ ?_ ?_ ?_ ?_ ?_|refine IA ?_ ?_ ?_|refine L1 ?_ ?_|refine L2 ?_ ?_|refine L3 ?_ ?_ ?_ ?_|refine L4 ?_ ?_|refine L5 ?_ ?_ ?_ ?_ ?_|refine L6 ?_ ?_ ?_ ?_ ?_|refine P0 (nR ?_) ?_ ?_ ?_|refine F2 (nR ?_) ?_ ?_ ?_|refine F7 (nR ?_) ?_ ?_|refine P0 (qG ?_) ?_ ?_ ?_|refine F2 (qG ?_) ?_ ?_ ?_|refine F7 (qG ?_) ?_ ?_|refine P0 (lR) ?_ ?_ ?_|refine F2 (lR) ?_ ?_ ?_|refine F7 (lR) ?_ ?_|simp -implicitDefEqProofs only [CU,qA,bN,bD,bO,aJ,aP,qU,D1,D4,D5,D3,D0,D6,reduceIte,reduceCtorEq,qI,E2,E1,Qj,DF,E0,eW,mA,cU, *]
  all_goals (have hA:=kV p l.length; have hB:=kU p l.length)
  all_goals first
    | (simp at hl ⊢; omega)
    | (refine H2 ?_; grind [tD,hP,dA,jM,aY,bL])
    | grind [tD,hP,dA,jM,aY,bL,bI]
    | skip

def CM:AFn:=⟨20,(.seq (.reg [o1 2 (.box 26 0),o1 3 (.box 3 1),o1 4 (.mv (.const .slnil)),o1 5 (.mv (ci 0))]) (.seq (.reg [o1 6 (.alloc 36 [(.int .i64 0)]),o2 (.st 1 6 (ci 0))]) (.seq (.reg [o1 10 (.ld 1 false 2),o1 11 (.ld 1 false 3),o1 12 (.mkfn (.func 286) [] [3,6,2]),o1 13 (.call 282 [10,11,(ci 40),12]),o1 9 (.mv 13),o1 14 (.ext 9 0),o1 15 (.ext 9 1),o1 7 (.mv 14),o1 8 (.mv 15)]) (.seq (.reg [o1 16 (.mv 7),o1 17 (.ld 1 false 6),o1 18 (.mv 8),o1 19 (.mx 17 18),o1 4 (.mv 16),o1 5 (.mv 19)]) .ret)))),[(4,none),(5,none)]⟩
theorem TF:xf D8 260=some CM:=by kernel_rfl
theorem xZ {l:List Slot} {p:Int} (hl:l.length≤1000000000):cX D8 260 [.slv 2 (l.map cU),.int .i64 p] (.tup [.slv 2 ((eY l p).1.map cU),.int .i64 (eY l p).2],[],[]):=by
  refine aI bP TF (by simp [CM]) fun hw _=>?_
  simp only [iR,M5,aY,G7] at hw
  repeat' with_reducible first|refine aQ (fun h=>?_) (fun h=>?_)|refine bB (fun h=>?_) (fun h=>?_)|refine aF (fun h=>?_) (fun h=>?_)|refine aH (fun h=>?_) (fun h=>?_)|refine FN ?_ ?_ ?_ ?_ rfl ?_|refine aR ?_ ?_|refine bC ?_ ?_|refine bM ?_ ?_|refine I0 bP HL Ye ?_ ?_ ?_ ?_ ?_|refine I0 bP TY PY ?_ ?_ ?_ ?_ ?_|refine IA ?_ ?_ ?_|refine L1 ?_ ?_|refine L2 ?_ ?_|refine L3 ?_ ?_ ?_ ?_|refine L4 ?_ ?_|refine L5 ?_ ?_ ?_ ?_ ?_|refine L6 ?_ ?_ ?_ ?_ ?_|refine P0 (nR ?_) ?_ ?_ ?_|refine F2 (nR ?_) ?_ ?_ ?_|refine F7 (nR ?_) ?_ ?_|refine P0 (qG ?_) ?_ ?_ ?_|refine F2 (qG ?_) ?_ ?_ ?_|refine F7 (qG ?_) ?_ ?_|refine P0 (lR) ?_ ?_ ?_|refine F2 (lR) ?_ ?_ ?_|refine F7 (lR) ?_ ?_|simp -implicitDefEqProofs only [CM,qA,bN,bD,bO,aJ,aP,qU,D1,D4,D5,D3,D0,D6,reduceIte,reduceCtorEq,qI,E2,E1,Qj,DE,E0,eW,mA,cU, *]
  all_goals (have hA:=kV p l.length; have hB:=kU p l.length)
  all_goals first
    | (simp at hl ⊢; omega)
    | (refine H2 ?_; grind [eY,hP,dA,jM,aY,bL])
    | grind [eY,hP,dA,jM,aY,bL,bI]
    | skip

set_option maxHeartbeats 8000000
def MZ:AFn:=⟨21,(.seq (.reg [o1 4 (.mv (.const .slnil)),o1 5 (.mv (ci 0))]) (.seq (.reg [o1 8 (.mv 0),o1 9 (.call 129 [8]),o1 6 (.mv 9)]) (.seq (.reg [o1 10 (.mv 0),o1 11 (.mv 1),o1 12 (.call 137 [10,11]),o1 7 (.mv 12)]) (.seq (.seq (.reg [o1 13 (.mv 7),o1 14 (.bin .lss 13 (ci 0))]) (.cond 14 (.seq (.reg [o1 15 (.mv 6),o1 4 (.mv 15),o1 5 (.mv (ci 40))]) .ret) .skip)) (.seq (.reg [o1 16 (.mv 6),o1 17 (.mv 7),o1 18 (.mv 7),o1 19 (.bin .add 18 (ci 1)),o1 20 (.call 138 [16,17,19]),o1 4 (.mv 20),o1 5 (.mv (ci 0))]) .ret))))),[(4,none),(5,none)]⟩
theorem XQ:xf D8 89=some MZ:=by kernel_rfl
theorem Aj {α:Type} {p:α→Bool} {l:List α}:wS p l<l.length:=by
  unfold wS
  split
  · rename_i i hi; have:=(List.findIdx?_eq_some_iff_getElem.1 hi).1; omega
  · omega
theorem Sq (id:Int):gY [] id=-1:=by simp [gY,gX,lU,wS]
theorem nS {l:List Int} {id:Int} (hl:l.length≤100000000):cX D8 89 [.slv 1 (l.map aS),.int .i64 id] (.tup [.slv 1 ((iX l id).1.map aS),.int .i64 (iX l id).2],[],[]):=by
  by_cases hne:l=[]
  · subst hne
    refine Hw ?_ ?_
    all_goals refine aI bP XQ (by simp [MZ]) fun hw _=>?_
    repeat' with_reducible first|refine aQ (fun h=>?_) (fun h=>?_)|refine bB (fun h=>?_) (fun h=>?_)|refine aF (fun h=>?_) (fun h=>?_)|refine aH (fun h=>?_) (fun h=>?_)|refine wM ?_ ?_ ?_ rfl ?_|refine aR ?_ ?_|refine bC ?_ ?_|refine bM ?_ ?_|refine P0 Af ?_ ?_ ?_|refine N1 Ad ?_ ?_|refine N1 (Ae hne ?_) ?_ ?_|refine P0 (iV ?_) ?_ ?_ ?_|refine P0 (sN (enc:=aS) (iV (l:=[]) ?_)) ?_ ?_ ?_|refine P0 (yB (enc:=aS) (iV (l:=[]) ?_)) ?_ ?_ ?_|refine F2 (iV ?_) ?_ ?_ ?_|refine AC.own1 (Nk (l:=[]) (T:=3) ?_ ?_ ?_) ?_ ?_ (by simp -implicitDefEqProofs only [m_get,D0,reduceIte,if_true,if_false]; first|done|exact rfl) ?_ ?_ ?_ ?_ ?_|simp -implicitDefEqProofs only [MZ,qA,bN,bD,bO,aJ,aP,qU,D1,D4,D5,D3,D0,D6,reduceIte,reduceCtorEq,qI,E2,E1,cL,bY,M6,Sq, *]
    all_goals first
      | (simp; done)
      | (simp at hl ⊢; omega)
      | (refine V2 ⟨?_,fun _=>rfl,G3 _,fun _=>rfl,trivial⟩
         first
          | exact P5 _
          | exact G3 _
          | (refine H2 ?_; simp [iX,gY]; done))
      | (refine H2 ?_; grind [iX])
      | (have hi:=Aj (p:=fun y=>decide (id=y)) (l:=([]:List Int)); grind [gY,bL,bI,aY])
      | (refine H2 ?_
         have hi:=Aj (p:=fun y=>decide (id=y)) (l:=([]:List Int))
         have hp:0≤gY ([]:List Int) id:=by grind
         have hq:gY ([]:List Int) id<([]:List Int).length:=by grind [gY]
         have hlen:(([]:List Int).eraseIdx (gY ([]:List Int) id).toNat).length=([]:List Int).length - 1:=by rw [S9,if_pos (by omega)]
         simp [iX,hlen,Int.not_lt.2 hp,F3,G1]; done)
      | skip
  · refine aI bP XQ (by simp [MZ]) fun hw _=>?_
    simp only [iR,M5,aY,G7] at hw
    repeat' with_reducible first|refine aQ (fun h=>?_) (fun h=>?_)|refine bB (fun h=>?_) (fun h=>?_)|refine aF (fun h=>?_) (fun h=>?_)|refine aH (fun h=>?_) (fun h=>?_)|refine wM ?_ ?_ ?_ rfl ?_|refine aR ?_ ?_|refine bC ?_ ?_|refine bM ?_ ?_|refine P0 Af ?_ ?_ ?_|refine N1 Ad ?_ ?_|refine N1 (Ae hne ?_) ?_ ?_|refine P0 (iV ?_) ?_ ?_ ?_|refine P0 (sN (enc:=aS) (iV (l:=[]) ?_)) ?_ ?_ ?_|refine P0 (yB (enc:=aS) (iV (l:=[]) ?_)) ?_ ?_ ?_|refine F2 (iV ?_) ?_ ?_ ?_|refine AC.own1 (Nk (l:=l) (T:=3) ?_ ?_ ?_) ?_ ?_ (by simp -implicitDefEqProofs only [m_get,D0,reduceIte,if_true,if_false]; first|done|exact rfl) ?_ ?_ ?_ ?_ ?_|simp -implicitDefEqProofs only [MZ,qA,bN,bD,bO,aJ,aP,qU,D1,D4,D5,D3,D0,D6,reduceIte,reduceCtorEq,qI,E2,E1,cL,bY,M6, *]
    all_goals first
      | (simp; done)
      | (simp at hl ⊢; omega)
      | (refine V2 ⟨?_,fun _=>rfl,G3 _,fun _=>rfl,trivial⟩
         first
          | exact P5 _
          | exact G3 _
          | (refine H2 ?_; simp [iX,gY]; done))
      | (refine H2 ?_; grind [iX])
      | (have hi:=Aj (p:=fun y=>decide (id=y)) (l:=l); grind [gY,bL,bI,aY])
      | (refine H2 ?_
         have hi:=Aj (p:=fun y=>decide (id=y)) (l:=l)
         have hp:0≤gY l id:=by grind
         have hq:gY l id<l.length:=by grind [gY]
         have hlen:(l.eraseIdx (gY l id).toNat).length=l.length - 1:=by rw [S9,if_pos (by omega)]
         simp [iX,hlen,Int.not_lt.2 hp,F3,G1]; done)
      | skip

set_option maxHeartbeats 8000000
def Tu:AFn:=⟨3,(.seq (.reg [o1 1 (.box 244 0),o1 2 (.mv (ci 0))]) (.seq (.reg [o1 2 (.mv (ci 0))]) .ret)),[(2,none)]⟩
theorem MR:xf D8 291=some Tu:=by kernel_rfl
theorem IE:Tu.code.lf=true:=rfl
def Tv:AFn:=⟨3,(.seq (.reg [o1 1 (.box 244 0),o1 2 (.mv (ci 0))]) (.seq (.reg [o1 2 (.mv (ci 1))]) .ret)),[(2,none)]⟩
theorem MS:xf D8 292=some Tv:=by kernel_rfl
theorem IF:Tv.code.lf=true:=rfl
def Tx:AFn:=⟨3,(.seq (.reg [o1 1 (.box 244 0),o1 2 (.mv (ci 0))]) (.seq (.reg [o1 2 (.mv (ci 2))]) .ret)),[(2,none)]⟩
theorem MU:xf D8 294=some Tx:=by kernel_rfl
theorem IH:Tx.code.lf=true:=rfl
def Tw:AFn:=⟨27,(.seq (.reg [o1 1 (.box 244 0),o1 2 (.mv (ci 0))]) (.seq (.block 0 (.seq (.reg [o1 4 (.faddr 7 1),o1 5 (.ld 1 false 4),o1 6 (.faddr 0 1),o1 7 (.faddr 4 6),o1 8 (.ld 1 false 7),o1 9 (.bin .lss 5 8),o1 3 (.mv 9)]) (.cond 3 (.seq (.reg [o1 10 (.ld 8 true 1),o1 11 (.call 291 [10]),o1 2 (.mv 11)]) .ret) (.seq (.reg [o1 13 (.faddr 7 1),o1 14 (.ld 1 false 13),o1 15 (.faddr 0 1),o1 16 (.faddr 4 15),o1 17 (.ld 1 false 16),o1 18 (.faddr 0 1),o1 19 (.faddr 5 18),o1 20 (.ld 1 false 19),o1 21 (.bin .add 17 20),o1 22 (.bin .lss 14 21),o1 12 (.mv 22)]) (.cond 12 (.seq (.reg [o1 23 (.ld 8 true 1),o1 24 (.call 292 [23]),o1 2 (.mv 24)]) .ret) .skip))))) (.seq (.reg [o1 25 (.ld 8 true 1),o1 26 (.call 294 [25]),o1 2 (.mv 26)]) .ret))),[(2,none)]⟩
theorem MT:xf D8 293=some Tw:=by kernel_rfl
theorem IG:Tw.code.lf=true:=rfl
theorem EE {c:Config} (h:eG c=0):(c.wt=0∨c.wt=1∨c.wt=2∨c.wt=3)∧0≤c.spin∧c.spin≤8∧0≤c.yld∧c.yld≤8:=by
  unfold eG at h
  split at h
  · rename_i hc; by_cases hw:c.wt=2 <;> simp [dT,cD,cI,hw] at hc <;> omega
  · cases h
theorem Be {c:Config} (h:eG c=0):dT c=true:=by
  unfold eG at h
  split at h
  · assumption
  · cases h
theorem Bf {c:Config} (h:¬ eG c=0):dT c=false:=by
  unfold eG at h
  split at h
  · exact absurd rfl h
  · rename_i hc; simpa using hc
def Qh:AFn:=⟨20,(.seq (.reg [o1 2 (.box 23 0),o1 4 (.mv (ci 0))]) (.seq (.seq (.reg [o1 6 (.ld 7 true 2),o1 7 (.call 76 [6]),o1 8 (.bin .neq 7 (ci 0))]) (.cond 8 (.seq (.reg [o1 4 (.mv (ci 0))]) .ret) .skip)) (.seq (.reg [o1 9 (.mkmap),o2 (.mupd 9 (ci 0) (.func 291)),o2 (.mupd 9 (ci 1) (.func 292)),o2 (.mupd 9 (ci 2) (.func 293)),o2 (.mupd 9 (ci 3) (.func 294)),o1 10 (.mv 9),o1 5 (.mv 10)]) (.seq (.reg [o1 11 (.mv 5),o1 12 (.faddr 3 2),o1 13 (.ld 1 false 12),o1 14 (.lkp .fnnil false 11 13),o1 15 (.ld 7 true 2),o1 16 (.mv 1),o1 17 (.mx 16 (ci 0)),o1 18 (.build [(.int .i64 0),(.int .i64 0),(.int .i64 0),(.int .i64 0),(.int .i64 0),(.int .i64 0),(.bool false),(.int .i64 0)] [(0,7,15),(7,1,17)]),o1 19 (.callv 14 [18]),o1 4 (.mv 19)]) .ret)))),[(4,none)]⟩
theorem MQ:xf D8 281=some Qh:=by kernel_rfl
theorem yA {zV xO:Int} {rM zW:Int} {mV rN:Int} {iL:Bool} {n:Int}:cX D8 281 [.agg [.int .i64 zV,.int .i64 xO,.int .i64 rM,.int .i64 zW,.int .i64 mV,.int .i64 rN,.bool iL],.int .i64 n] (.int .i64 (tI (Config.mk zV xO rM zW mV rN iL) n),[],[]):=by
  by_cases hk:eG (Config.mk zV xO rM zW mV rN iL)=0
  · obtain ⟨h0,hs1,hs2,hy1,hy2⟩:=EE hk
    have hok:=Be hk
    simp only [] at h0 hs1 hs2 hy1 hy2
    rcases h0 with rfl | rfl | rfl | rfl
    all_goals refine aI bP MQ (by simp [Qh]) fun hw _=>?_
    all_goals simp only [iR,M5,aY] at hw
    all_goals
      repeat' with_reducible first|refine aQ (fun h=>?_) (fun h=>?_)|refine bB (fun h=>?_) (fun h=>?_)|refine aF (fun h=>?_) (fun h=>?_)|refine aH (fun h=>?_) (fun h=>?_)|refine bJ ?_ ?_ ?_ ?_|refine aR ?_ ?_|refine bC ?_ ?_|refine bM ?_ ?_|refine I0 bP MR IE ?_ ?_ ?_ ?_ ?_|refine I0 bP MS IF ?_ ?_ ?_ ?_ ?_|refine I0 bP MU IH ?_ ?_ ?_ ?_ ?_|refine I0 bP MT IG ?_ ?_ ?_ ?_ ?_|refine IA ?_ ?_ ?_|refine L1 ?_ ?_|refine L2 ?_ ?_|refine L3 ?_ ?_ ?_ ?_|refine L4 ?_ ?_|refine L5 ?_ ?_ ?_ ?_ ?_|refine L6 ?_ ?_ ?_ ?_ ?_|refine P0 (wF) ?_ ?_ ?_|refine F2 (wF) ?_ ?_ ?_|refine F7 (wF) ?_ ?_|simp -implicitDefEqProofs only [Qh,qA,bN,bD,bO,aJ,aP,qU,D1,D4,D5,D3,D0,D6,reduceIte,reduceCtorEq,qI,E2,E1,Tu,Tv,Tx,Tw,fM,eX,fJ,M7,dV,F4,Blk.inN,Blk.nms,J4,J8, *]
    all_goals first
          | (simp; done)
          | (simp [inlOk,Blk.inN,AV.inN,M7]; done)
          | grind [tI,Be,Bf,bL,aY]
          | skip
  · have hok:=Bf hk
    refine aI bP MQ (by simp [Qh]) fun hw _=>?_
    simp only [iR,M5,aY] at hw
    repeat' with_reducible first|refine aQ (fun h=>?_) (fun h=>?_)|refine bB (fun h=>?_) (fun h=>?_)|refine aF (fun h=>?_) (fun h=>?_)|refine aH (fun h=>?_) (fun h=>?_)|refine bJ ?_ ?_ ?_ ?_|refine aR ?_ ?_|refine bC ?_ ?_|refine bM ?_ ?_|refine I0 bP MR IE ?_ ?_ ?_ ?_ ?_|refine I0 bP MS IF ?_ ?_ ?_ ?_ ?_|refine I0 bP MU IH ?_ ?_ ?_ ?_ ?_|refine I0 bP MT IG ?_ ?_ ?_ ?_ ?_|refine IA ?_ ?_ ?_|refine L1 ?_ ?_|refine L2 ?_ ?_|refine L3 ?_ ?_ ?_ ?_|refine L4 ?_ ?_|refine L5 ?_ ?_ ?_ ?_ ?_|refine L6 ?_ ?_ ?_ ?_ ?_|refine P0 (wF) ?_ ?_ ?_|refine F2 (wF) ?_ ?_ ?_|refine F7 (wF) ?_ ?_|simp -implicitDefEqProofs only [Qh,qA,bN,bD,bO,aJ,aP,qU,D1,D4,D5,D3,D0,D6,reduceIte,reduceCtorEq,qI,E2,E1,Tu,Tv,Tx,Tw,fM,eX,fJ,M7,dV,F4,Blk.inN,Blk.nms,J4,J8, *]
    all_goals first
          | (simp; done)
          | (simp [inlOk,Blk.inN,AV.inN,M7]; done)
          | grind [tI,Be,Bf,bL,aY]
          | skip

set_option maxHeartbeats 8000000
def Qk:AFn:=⟨5,(.seq (.reg [o1 2 (.mv (.const (.bool false)))]) (.seq (.reg [o1 3 (.mv 0),o1 4 (.bin .eql 3 (ci 0)),o1 2 (.mv 4)]) .ret)),[(2,none)]⟩
theorem HM:xf D8 285=some Qk:=by kernel_rfl
theorem Yf:Qk.code.lf=true:=rfl
def zT:AFn:=⟨24,(.seq (.reg [o1 2 (.mv (ci 0)),o1 3 (.mv (.const (.bool false)))]) (.seq (.reg [o1 8 (.mv 0),o1 9 (.nilchk 8),o1 10 (.faddr 0 9),o1 11 (.faddr 1 10),o1 12 (.ld 1 false 11),o1 13 (.call 297 [12]),o1 7 (.mv 13),o1 14 (.ext 7 0),o1 15 (.ext 7 1),o1 16 (.ext 7 2),o1 4 (.mv 14),o1 5 (.mv 15),o1 6 (.mv 16)]) (.seq (.reg [o1 17 (.mv 0),o1 18 (.mv 5),o1 19 (.nilchk 17),o1 20 (.faddr 0 19),o1 21 (.faddr 1 20),o2 (.st 1 21 18)]) (.seq (.reg [o1 22 (.mv 4),o1 23 (.mv 6),o1 2 (.mv 22),o1 3 (.mv 23)]) .ret)))),[(2,none),(3,none)]⟩
theorem Ds:xf D8 296=some zT:=by kernel_rfl
theorem wX:zT.code.lf=true:=rfl
def mD (e:Event):List Int:=if eZ e then e.ln.take 1 else []
theorem Iz {l:List Int} (h:gX l=true):pM l=match l with | []=>(0,[],false) | x :: r=>(x,r,true):=by
  cases l with
  | nil=>simp [pM,h]
  | cons x r=>simp [pM,h]
theorem Ej {e:Event} (h:eZ e=true):gX e.ln=true:=by simp [eZ] at h; exact h.2
def uD:AFn:=⟨45,(.seq (.reg [o1 2 (.box 29 0),o1 4 (.alloc 29 [(.int .i64 0),.slnil]),o1 5 (.mv (.const .slnil))]) (.seq (.reg [o1 11 (.ld 2 true 2),o1 12 (.call 90 [11]),o1 13 (.build [(.int .i64 0),.slnil] [(0,2,12)]),o1 6 (.alloc 247 [(.int .i64 0),.slnil]),o2 (.st 2 6 13)]) (.seq (.seq (.reg [o1 14 (.ld 2 true 2),o1 15 (.call 55 [14]),o1 16 (.not 15)]) (.cond 16 (.seq (.reg [o1 17 (.faddr 0 6),o1 18 (.ld 2 true 17),o2 (.st 2 4 18),o1 5 (.mv (.const .slnil))]) .ret) .skip)) (.seq (.reg [o1 19 (.faddr 0 6),o1 20 (.faddr 0 19),o1 21 (.ld 1 false 20),o1 22 (.bin .add 21 (ci 1)),o1 23 (.mn 22 (ci 1099511627776)),o1 24 (.faddr 0 6),o1 25 (.faddr 0 24),o2 (.st 1 25 23)]) (.seq (.reg [o1 7 (.mv (.const .slnil))]) (.seq (.reg [o1 26 (.mkfn (.func 296) [6] []),o1 8 (.mv 26)]) (.seq (.block 0 (.loop (.seq (.seq (.reg [o1 27 (.mv 1),o1 28 (.mv 7),o1 29 (.len 28),o1 30 (.callv 27 [29])]) (.cond 30 .skip (.exit 0))) (.block 1 (.seq (.reg [o1 32 (.mv 8),o1 33 (.callv 32 []),o1 31 (.mv 33),o1 34 (.ext 31 0),o1 35 (.ext 31 1),o1 9 (.mv 34),o1 10 (.mv 35)]) (.seq (.seq (.reg [o1 36 (.mv 10),o1 37 (.not 36)]) (.cond 37 (.exit 0) .skip)) (.reg [o1 38 (.mv 7),o1 39 (.mv 9),o1 40 (.bslice 3 1 1 [39]),o1 41 (.app 3 1 8 38 40),o1 7 (.mv 41)]))))))) (.seq (.reg [o1 42 (.faddr 0 6),o1 43 (.ld 2 true 42),o1 44 (.mv 7),o2 (.st 2 4 43),o1 5 (.mv 44)]) .ret)))))))),[(4,some (2,true)),(5,none)]⟩
theorem Tk:xf D8 284=some uD:=by kernel_rfl
theorem EC {fF:Int} {eH:List Int} (hl:eH.length≤100000000):cX D8 284 [.agg [.int .i64 fF,.slv 1 (eH.map aS)],.fn (.func 285) [] []] (.tup [.agg (dO (fI ⟨fF,eH⟩).1),.slv 1 ((mD ⟨fF,eH⟩).map aS)],[],[]):=by
  by_cases hv:eZ ⟨fF,eH⟩=true
  · have hc:=Ej hv
    have hb:0≤fF∧fF≤1099511627776:=by simp [eZ] at hv; omega
    simp only [] at hc
    have hN:=Iz hc
    have hcase:(mD ⟨fF,eH⟩=[]∧fI ⟨fF,eH⟩=(⟨min (fF+1) 1099511627776,[]⟩,0,false)∧pM eH=(0,[],false))∨∃ x l,mD ⟨fF,eH⟩=[x]∧fI ⟨fF,eH⟩=(⟨min (fF+1) 1099511627776,l⟩,x,true)∧pM eH=(x,l,true):=by
      cases eH with
      | nil=>exact .inl ⟨by simp [mD],by simp [fI,hv],hN⟩
      | cons x l=>exact .inr ⟨x,l,by simp [mD,hv],by simp [fI,hv],hN⟩
    have hmin:(if 1099511627776<IntKind.wrap .i64 (fF+1) then (1099511627776:Int) else IntKind.wrap .i64 (fF+1))=min (fF+1) 1099511627776:=by
      have:IntKind.wrap .i64 (fF+1)=fF+1:=by grind [bL]
      rw [this]; split <;> omega
    clear hN
    rcases hcase with ⟨e2,e1,hN⟩ | ⟨x,l,e2,e1,hN⟩
    · rw [e1,e2]
      clear e1 e2
      refine aI bP Tk (by simp [uD]) fun hw _=>?_
      simp only [iR,M5,aY,G7] at hw
      repeat' with_reducible first|refine aQ (fun h=>?_) (fun h=>?_)|refine bB (fun h=>?_) (fun h=>?_)|refine aF (fun h=>?_) (fun h=>?_)|refine aH (fun h=>?_) (fun h=>?_)|refine wM ?_ ?_ ?_ rfl ?_|refine aR ?_ ?_|refine bC ?_ ?_|refine bM ?_ ?_|refine I0 bP HM Yf ?_ ?_ ?_ ?_ ?_|refine I0 bP Ds wX ?_ ?_ ?_ ?_ ?_|refine IA ?_ ?_ ?_|refine L1 ?_ ?_|refine L2 ?_ ?_|refine L3 ?_ ?_ ?_ ?_|refine L4 ?_ ?_|refine L5 ?_ ?_ ?_ ?_ ?_|refine L6 ?_ ?_ ?_ ?_ ?_|refine kS 2 ?_ ?_|refine And.intro (M4 rfl) ?_|refine P0 (fT ?_) ?_ ?_ ?_|refine F2 (fT ?_) ?_ ?_ ?_|refine F7 (fT ?_) ?_ ?_|refine P0 (gU ?_) ?_ ?_ ?_|refine F2 (gU ?_) ?_ ?_ ?_|refine F7 (gU ?_) ?_ ?_|refine P0 (gE ?_) ?_ ?_ ?_|refine F2 (gE ?_) ?_ ?_ ?_|refine F7 (gE ?_) ?_ ?_|simp -implicitDefEqProofs only [uD,qA,bN,bD,bO,aJ,aP,qU,D1,D4,D5,D3,D0,D6,reduceIte,reduceCtorEq,qI,E2,E1,Qk,zT,dO,E0,eW,bY,F1,P6,F4,F5,f0, *]
      all_goals first
        | omega
        | (simp at hl ⊢; omega)
        | exact V2 ⟨G3 _,id,P5 _,id,trivial⟩
        | skip
    · rw [e1,e2]
      clear e1 e2
      refine aI bP Tk (by simp [uD]) fun hw _=>?_
      simp only [iR,M5,aY,G7] at hw
      repeat' with_reducible first|refine aQ (fun h=>?_) (fun h=>?_)|refine bB (fun h=>?_) (fun h=>?_)|refine aF (fun h=>?_) (fun h=>?_)|refine aH (fun h=>?_) (fun h=>?_)|refine wM ?_ ?_ ?_ rfl ?_|refine aR ?_ ?_|refine bC ?_ ?_|refine bM ?_ ?_|refine I0 bP HM Yf ?_ ?_ ?_ ?_ ?_|refine I0 bP Ds wX ?_ ?_ ?_ ?_ ?_|refine IA ?_ ?_ ?_|refine L1 ?_ ?_|refine L2 ?_ ?_|refine L3 ?_ ?_ ?_ ?_|refine L4 ?_ ?_|refine L5 ?_ ?_ ?_ ?_ ?_|refine L6 ?_ ?_ ?_ ?_ ?_|refine kS 2 ?_ ?_|refine And.intro (M4 rfl) ?_|refine P0 (fT ?_) ?_ ?_ ?_|refine F2 (fT ?_) ?_ ?_ ?_|refine F7 (fT ?_) ?_ ?_|refine P0 (gU ?_) ?_ ?_ ?_|refine F2 (gU ?_) ?_ ?_ ?_|refine F7 (gU ?_) ?_ ?_|refine P0 (gE ?_) ?_ ?_ ?_|refine F2 (gE ?_) ?_ ?_ ?_|refine F7 (gE ?_) ?_ ?_|simp -implicitDefEqProofs only [uD,qA,bN,bD,bO,aJ,aP,qU,D1,D4,D5,D3,D0,D6,reduceIte,reduceCtorEq,qI,E2,E1,Qk,zT,dO,E0,eW,bY,F1,P6,F4,F5,f0, *]
      all_goals first
        | omega
        | (simp at hl ⊢; omega)
        | exact G3 _
        | skip
  · have hv':eZ ⟨fF,eH⟩=false:=by simpa using hv
    have e1:fI ⟨fF,eH⟩=(⟨fF,eH⟩,0,false):=by simp [fI,hv]
    have e2:mD ⟨fF,eH⟩=[]:=by simp [mD,hv]
    rw [e1,e2]
    refine aI bP Tk (by simp [uD]) fun hw _=>?_
    simp only [iR,M5,aY,G7] at hw
    repeat' with_reducible first|refine aQ (fun h=>?_) (fun h=>?_)|refine bB (fun h=>?_) (fun h=>?_)|refine aF (fun h=>?_) (fun h=>?_)|refine aH (fun h=>?_) (fun h=>?_)|refine wM ?_ ?_ ?_ rfl ?_|refine aR ?_ ?_|refine bC ?_ ?_|refine bM ?_ ?_|refine I0 bP HM Yf ?_ ?_ ?_ ?_ ?_|refine I0 bP Ds wX ?_ ?_ ?_ ?_ ?_|refine IA ?_ ?_ ?_|refine L1 ?_ ?_|refine L2 ?_ ?_|refine L3 ?_ ?_ ?_ ?_|refine L4 ?_ ?_|refine L5 ?_ ?_ ?_ ?_ ?_|refine L6 ?_ ?_ ?_ ?_ ?_|refine kS 2 ?_ ?_|refine And.intro (M4 rfl) ?_|refine P0 (fT ?_) ?_ ?_ ?_|refine F2 (fT ?_) ?_ ?_ ?_|refine F7 (fT ?_) ?_ ?_|refine P0 (gU ?_) ?_ ?_ ?_|refine F2 (gU ?_) ?_ ?_ ?_|refine F7 (gU ?_) ?_ ?_|refine P0 (gE ?_) ?_ ?_ ?_|refine F2 (gE ?_) ?_ ?_ ?_|refine F7 (gE ?_) ?_ ?_|simp -implicitDefEqProofs only [uD,qA,bN,bD,bO,aJ,aP,qU,D1,D4,D5,D3,D0,D6,reduceIte,reduceCtorEq,qI,E2,E1,Qk,zT,dO,E0,eW,bY,F1,P6,F4,F5,f0, *]
    all_goals first
      | omega
        | (simp at hl ⊢; omega)
      | exact V2 ⟨G3 _,id,P5 _,id,trivial⟩
      | skip

theorem Lu {e:Event} (h:(mD e).length=0):(fI e).2.1=0∧(fI e).2.2=false:=by
  unfold mD fI at *
  split at h
  · rename_i hv
    simp only [hv]
    cases hl:e.ln with
    | nil=>simp
    | cons x l=>rw [hl] at h; simp at h
  · rename_i hv; simp [hv]
theorem Lt {e:Event} (h:¬ (mD e).length=0):0<(mD e).length∧(mD e).getD 0 default=(fI e).2.1∧(fI e).2.2=true:=by
  unfold mD fI at *
  split at h
  · rename_i hv
    simp only [hv,if_true]
    cases hl:e.ln with
    | nil=>rw [hl] at h; simp at h
    | cons x l=>simp
  · simp at h
def CG:AFn:=⟨20,(.seq (.reg [o1 1 (.box 29 0),o1 2 (.alloc 29 [(.int .i64 0),.slnil]),o1 3 (.mv (ci 0)),o1 4 (.mv (.const (.bool false)))]) (.seq (.reg [o1 8 (.ld 2 true 1),o1 9 (.call 284 [8,(.func 285)]),o1 7 (.mv 9),o1 10 (.ext 7 0),o1 11 (.ext 7 1),o1 5 (.alloc 29 [(.int .i64 0),.slnil]),o2 (.st 2 5 10),o1 6 (.mv 11)]) (.seq (.seq (.reg [o1 12 (.mv 6),o1 13 (.len 12),o1 14 (.bin .eql 13 (ci 0))]) (.cond 14 (.seq (.reg [o1 15 (.ld 2 true 5),o2 (.st 2 2 15),o1 3 (.mv (ci 0)),o1 4 (.mv (.const (.bool false)))]) .ret) .skip)) (.seq (.regT [o1 16 (.ld 2 true 5),o1 17 (.mv 6),o1 18 (.iaddr 1 17 (ci 0)),o1 19 (.ld 1 false 18),o2 (.st 2 2 16),o1 3 (.mv 19),o1 4 (.mv (.const (.bool true)))] [(0,2),(0,3),(2,4),(3,4)]) .ret)))),[(2,some (2,true)),(3,none),(4,none)]⟩
theorem TA:xf D8 255=some CG:=by kernel_rfl
theorem xW {fF:Int} {eH:List Int} (hl:eH.length≤100000000):cX D8 255 [.agg [.int .i64 fF,.slv 1 (eH.map aS)]] ((.tup [.agg (dO ((fI (Event.mk fF eH)).1)),.int .i64 ((fI (Event.mk fF eH)).2.1),.bool ((fI (Event.mk fF eH)).2.2)]),[],[]):=by
  refine aI bP TA (by simp [CG]) fun hw _=>?_
  simp only [iR,M5,aY] at hw
  repeat' with_reducible first|refine aQ (fun h=>?_) (fun h=>?_)|refine bB (fun h=>?_) (fun h=>?_)|refine aF (fun h=>?_) (fun h=>?_)|refine aH (fun h=>?_) (fun h=>?_)|refine bJ ?_ ?_ ?_ ?_|refine aR ?_ ?_|refine bC ?_ ?_|refine bM ?_ ?_|refine P0 (EC ?_) ?_ ?_ ?_|refine eK (d:=default) ?_ ?_|simp -implicitDefEqProofs only [CG,qA,cS,cW,aJ,aP,qU,D1,D4,D5,D3,D0,D6,reduceIte,reduceCtorEq,dO,aS,len_slv,G7, *]
  all_goals first
    | (simp; done)
    | exact bE
    | exact bE.symm
    | grind [aY,bL,bI,Lu,Lt]

set_option maxHeartbeats 8000000
def VK:AFn:=⟨11,(.seq (.reg [o1 3 (.mv (.const (.bool false)))]) (.seq (.reg [o1 4 (.mv 0),o1 5 (.bin .lss 4 (ci 0)),o1 6 (.mv 5),o4 7 (.mv 0) 6,o4 8 (.ld 1 false 1) 6,o4 9 (.bin .geq 7 8) 6,o1 10 (.pick 6 (.const (.bool true)) 9),o1 3 (.mv 10)]) .ret)),[(3,none)]⟩
theorem ZP:xf D8 99=some VK:=by kernel_rfl
theorem OJ {x th:Int}  : cX D8 99 [.int .i64 x,.pv [.int .i64 th]] ((.bool ((decide (x<0) || decide (x≥th)))),[],[]):=by
  refine aI bP ZP (by simp [VK]) fun hw _=>?_
  simp only [iR,M5,aY] at hw
  repeat' with_reducible first|refine aQ (fun h=>?_) (fun h=>?_)|refine bB (fun h=>?_) (fun h=>?_)|refine aF (fun h=>?_) (fun h=>?_)|refine aH (fun h=>?_) (fun h=>?_)|refine bJ ?_ ?_ ?_ ?_|refine aR ?_ ?_|refine bC ?_ ?_|refine bM ?_ ?_|simp -implicitDefEqProofs only [VK,qA,cS,cW,aJ,aP,qU,D1,D4,D5,D3,D0,D6,reduceIte,reduceCtorEq,bD, *]
  all_goals first
    | (simp; done)
    | exact bE
    | exact bE.symm
    | grind [aY,bL,bI]

def Av (th:Int) (a b c d:List Int):Bool:=dG th a && dG th b && dG th c && dG th d
def UO:AFn:=⟨24,(.seq (.reg [o1 2 (.box 3 0),o1 4 (.mv (.const (.bool false)))]) (.seq (.reg [o1 8 (.mkfn (.func 99) [] [2]),o1 5 (.mv 8)]) (.seq (.seq (.reg [o1 9 (.mv 1),o1 10 (.len 9),o1 11 (.mv (ci 0))]) (.block 0 (.loop (.seq (.reg [o1 12 (.bin .lss 11 10)]) (.seq (.cond 12 .skip (.exit 0)) (.seq (.block 1 (.seq (.reg [o1 13 (.iaddr 1 9 11),o1 14 (.ld 1 false 13),o1 7 (.mv 14)]) (.seq (.reg [o1 15 (.mv 7),o1 16 (.call 100 [15]),o1 17 (.not 16),o1 18 (.mv 17),o4 19 (.mv 7) 18,o4 20 (.mv 5) 18,o4 21 (.call 101 [19,20]) 18,o1 22 (.pick 18 (.const (.bool true)) 21)]) (.cond 22 (.seq (.reg [o1 4 (.mv (.const (.bool false)))]) .ret) .skip)))) (.reg [o1 23 (.bin .add 11 (ci 1)),o1 11 (.mv 23)]))))))) (.seq (.reg [o1 4 (.mv (.const (.bool true)))]) .ret)))),[(4,none)]⟩
theorem YR:xf D8 54=some UO:=by kernel_rfl
theorem c4:((4:Nat):Int)=4:=rfl
theorem XD:IntKind.wrap .i64 1=1:=by decide
theorem XE:IntKind.wrap .i64 2=2:=by decide
theorem XF:IntKind.wrap .i64 3=3:=by decide
theorem XG:IntKind.wrap .i64 4=4:=by decide
theorem MI:IntKind.wrap .i64 (0+1)=1:=by decide
theorem MJ:IntKind.wrap .i64 (1+1)=2:=by decide
theorem MK:IntKind.wrap .i64 (2+1)=3:=by decide
theorem ML:IntKind.wrap .i64 (3+1)=4:=by decide
theorem XB {P:Program} {b0:Nat} {ac:ACode} {K:KX} {env:List AV} {m:AM} {b:Nat}:Mu P b0 ac K 4 env m b=vc P b0 ac (GY b0 (Mu P b0 ac K 3) K) env m b:=rfl
theorem XC {P:Program} {b0:Nat} {ac:ACode} {K:KX} {env:List AV} {m:AM} {b:Nat}:Mu P b0 ac K 5 env m b=vc P b0 ac (GY b0 (Mu P b0 ac K 4) K) env m b:=rfl
theorem OF {th:Int} {a b c d:List Int} (ha:a.length≤100000000) (hb:b.length≤100000000) (hc:c.length≤100000000) (hd:d.length≤100000000):cX D8 54 [.int .i64 th,.slv 1 [[.slv 1 (a.map aS)],[.slv 1 (b.map aS)],[.slv 1 (c.map aS)],[.slv 1 (d.map aS)]]] (.bool (Av th a b c d),[],[]):=by
  refine aI bP YR (by simp [UO]) fun hw _=>?_
  simp only [iR,M5,aY,G7] at hw
  repeat' with_reducible first|refine aQ (fun h=>?_) (fun h=>?_)|refine bB (fun h=>?_) (fun h=>?_)|refine aF (fun h=>?_) (fun h=>?_)|refine aH (fun h=>?_) (fun h=>?_)|refine bJ ?_ ?_ ?_ ?_|refine aR ?_ ?_|refine bC ?_ ?_|refine bM ?_ ?_|refine F2 (Uk (p:=fun id=>decide (id<0) || decide (id≥th)) (caps:=[.pv [.int .i64 th]]) rfl (fun x _=>OJ)) ?_ ?_ ?_|refine AC.viewAll ?_ ?_ ?_|refine kS 5 ?_ ?_|refine And.intro (M4 rfl) ?_|refine P0 (iK ?_) ?_ ?_ ?_|refine F2 (iK ?_) ?_ ?_ ?_|refine F7 (iK ?_) ?_ ?_|simp -implicitDefEqProofs only [UO,qA,bN,bD,bO,aJ,aP,qU,D1,D4,D5,D3,D0,D6,reduceIte,reduceCtorEq,qI,E2,E1,XB,XC,E0,eN,List.getD_cons_zero,List.getD_cons_succ,F1,P6,Int.reduceLT,Int.reduceLE,Int.reduceAdd,Int.reduceToNat,c4,XD,XE,XF,XG,MI,MJ,MK,ML,Int.toNat_one,Int.toNat_zero, *]
  all_goals first
    | omega
    | (simp; done)
    | grind [Av,dG]
    | skip

set_option maxHeartbeats 8000000
def UL:AFn:=⟨6,(.seq (.reg [o1 1 (.box 42 0),o1 2 (.mv (.const (.bool false)))]) (.seq (.reg [o1 3 (.ld 11 true 1),o1 4 (.call 51 [3]),o1 5 (.not 4),o1 2 (.mv 5)]) .ret)),[(2,none)]⟩
theorem YN:xf D8 50=some UL:=by kernel_rfl
theorem OD {jC dX:Int} {fX eA:Int} {jB fV:Int} {dZ dF:Int} {dY:Bool} {fW fU:Int}  : cX D8 50 [.agg [.int .i64 jC,.int .i64 dX,.int .i64 fX,.int .i64 eA,.int .i64 jB,.int .i64 fV,.int .i64 dZ,.int .i64 dF,.bool dY,.int .i64 fW,.int .i64 fU]] ((.bool (!cZ (Thread.mk jC dX fX eA jB fV dZ dF dY fW fU))),[],[]):=by
  refine aI bP YN (by simp [UL]) fun hw _=>?_
  simp only [iR,M5,aY] at hw
  repeat' with_reducible first|refine aQ (fun h=>?_) (fun h=>?_)|refine bB (fun h=>?_) (fun h=>?_)|refine aF (fun h=>?_) (fun h=>?_)|refine aH (fun h=>?_) (fun h=>?_)|refine bJ ?_ ?_ ?_ ?_|refine aR ?_ ?_|refine bC ?_ ?_|refine bM ?_ ?_|refine P0 (Vw) ?_ ?_ ?_|refine F2 (Vw) ?_ ?_ ?_|refine F7 (Vw) ?_ ?_|simp -implicitDefEqProofs only [UL,qA,cS,cW,aJ,aP,qU,D1,D4,D5,D3,D0,D6,reduceIte,reduceCtorEq, *]
  all_goals first
    | (simp; done)
    | exact bE
    | exact bE.symm
    | grind [aY,bL,bI]

theorem KJ (x:Thread):cX D8 50 (.agg (bH x) :: []) (.bool (!cZ x),[],[]):=OD
def UH:AFn:=⟨68,(.seq (.reg [o1 1 (.box 33 0),o1 2 (.mv (.const (.bool false)))]) (.seq (.reg [o1 5 (.faddr 0 1),o1 6 (.ld 7 true 5),o1 7 (.call 49 [6]),o1 3 (.mv 7)]) (.seq (.reg [o1 4 (.mv (.func 50))]) (.seq (.block 0 (.seq (.seq (.reg [o1 9 (.mv 3),o1 10 (.bin .eql 9 (ci 0)),o1 8 (.mv 10)]) (.cond 8 .skip (.seq (.reg [o1 11 (.faddr 7 1),o1 12 (.ld 3 true 11),o1 13 (.mv 3),o1 14 (.call 52 [12,13]),o1 15 (.not 14),o1 8 (.mv 15)]) (.cond 8 .skip (.seq (.reg [o1 16 (.faddr 10 1),o1 17 (.ld 1 false 16),o1 18 (.len 17),o1 19 (.mv 3),o1 20 (.bin .neq 18 19),o1 8 (.mv 20)]) (.cond 8 .skip (.reg [o1 21 (.faddr 10 1),o1 22 (.ld 1 false 21),o1 23 (.call 53 [22]),o1 24 (.not 23),o1 8 (.mv 24)]))))))) (.cond 8 (.seq (.reg [o1 2 (.mv (.const (.bool false)))]) .ret) (.seq (.seq (.reg [o1 26 (.faddr 0 1),o1 27 (.faddr 1 26),o1 28 (.ld 1 false 27),o1 29 (.faddr 11 1),o1 30 (.ld 1 false 29),o1 31 (.faddr 12 1),o1 32 (.ld 1 false 31),o1 33 (.faddr 13 1),o1 34 (.faddr 1 33),o1 35 (.ld 1 false 34),o1 36 (.faddr 15 1),o1 37 (.faddr 1 36),o1 38 (.ld 1 false 37),o1 39 (.bslice 27 1 4 [30,32,35,38]),o1 40 (.call 54 [28,39]),o1 41 (.not 40),o1 25 (.mv 41)]) (.cond 25 .skip (.seq (.reg [o1 42 (.faddr 13 1),o1 43 (.ld 2 true 42),o1 44 (.call 55 [43]),o1 45 (.not 44),o1 25 (.mv 45)]) (.cond 25 .skip (.reg [o1 46 (.faddr 15 1),o1 47 (.ld 2 true 46),o1 48 (.call 55 [47]),o1 49 (.not 48),o1 25 (.mv 49)]))))) (.cond 25 (.seq (.reg [o1 2 (.mv (.const (.bool false)))]) .ret) (.seq (.seq (.reg [o1 51 (.faddr 17 1),o1 52 (.ld 1 false 51),o1 53 (.bin .lss 52 (ci 0)),o1 50 (.mv 53)]) (.cond 50 .skip (.seq (.reg [o1 54 (.faddr 17 1),o1 55 (.ld 1 false 54),o1 56 (.bin .gtr 55 (ci 1099511627776)),o1 50 (.mv 56)]) (.cond 50 .skip (.seq (.reg [o1 57 (.faddr 18 1),o1 58 (.ld 1 false 57),o1 59 (.len 58),o1 60 (.faddr 0 1),o1 61 (.faddr 1 60),o1 62 (.ld 1 false 61),o1 63 (.bin .neq 59 62),o1 50 (.mv 63)]) (.cond 50 .skip (.reg [o1 64 (.faddr 18 1),o1 65 (.ld 1 false 64),o1 66 (.mv 4),o1 67 (.call 56 [65,66]),o1 50 (.mv 67)]))))))) (.cond 50 (.seq (.reg [o1 2 (.mv (.const (.bool false)))]) .ret) .skip))))))) (.seq (.reg [o1 2 (.mv (.const (.bool true)))]) .ret))))),[(2,none)]⟩
theorem Ke:xf D8 18=some UH:=by kernel_rfl
theorem iS {aW aV:Int} {aN aX:Int} {aG aO:Int} {aA:Bool} {bT bV bU:Int} {aB:List Slot} {aD aC:List Int} {aZ:Int} {aT:List Int} {bA:Int} {aU:List Int} {aL:Int} {aE:List Thread} {aK:List Entry} (h1:aB.length≤100000000) (h2:aD.length≤100000000) (h3:aC.length≤100000000) (h4:aT.length≤100000000) (h5:aU.length≤100000000) (h6:aE.length≤100000000) (h7:aK.length≤100000000):cX D8 18 [.agg [.int .i64 aW,.int .i64 aV,.int .i64 aN,.int .i64 aX,.int .i64 aG,.int .i64 aO,.bool aA,.int .i64 bT,.int .i64 bV,.int .i64 bU,.slv 2 (aB.map cU),.slv 1 (aD.map aS),.slv 1 (aC.map aS),.int .i64 aZ,.slv 1 (aT.map aS),.int .i64 bA,.slv 1 (aU.map aS),.int .i64 aL,.slv 11 (aE.map bH),.slv 5 (aK.map cO)]] (.bool (bZ (State.mk (Config.mk aW aV aN aX aG aO aA) (Word.mk bT bV bU) aB aD aC (Event.mk aZ aT) (Event.mk bA aU) aL aE aK)),[],[]):=by
  refine aI bP Ke (by simp [UH]) fun hw _=>?_
  simp only [iR,M5,aY,G7] at hw
  repeat' with_reducible first|refine aQ (fun h=>?_) (fun h=>?_)|refine bB (fun h=>?_) (fun h=>?_)|refine aF (fun h=>?_) (fun h=>?_)|refine aH (fun h=>?_) (fun h=>?_)|refine bJ ?_ ?_ ?_ ?_|refine aR ?_ ?_|refine bC ?_ ?_|refine bM ?_ ?_|refine P0 (OG (p:=fun t=>!cZ t) (caps:=[]) rfl (fun x _=>KJ x)) ?_ ?_ ?_|refine F2 (OF ?_ ?_ ?_ ?_) ?_ ?_ ?_|refine AC.viewAll ?_ ?_ ?_|refine P0 (Vv) ?_ ?_ ?_|refine F2 (Vv) ?_ ?_ ?_|refine F7 (Vv) ?_ ?_|refine P0 (Dz) ?_ ?_ ?_|refine F2 (Dz) ?_ ?_ ?_|refine F7 (Dz) ?_ ?_|refine P0 (nR ?_) ?_ ?_ ?_|refine F2 (nR ?_) ?_ ?_ ?_|refine F7 (nR ?_) ?_ ?_|refine P0 (fT ?_) ?_ ?_ ?_|refine F2 (fT ?_) ?_ ?_ ?_|refine F7 (fT ?_) ?_ ?_|simp -implicitDefEqProofs only [UH,qA,bN,bD,bO,aJ,aP,qU,D1,D4,D5,D3,D0,D6,reduceIte,reduceCtorEq,qI,E2,E1,bY,bH, *]
  all_goals first
    | omega
    | (simp; done)
    | grind [bZ,Av]
    | skip

end Go.Sak
