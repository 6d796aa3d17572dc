/- Part U10 of the proofs about the program: K1. Conditions: none. -/
import Derived.Test.YtahdilehajdhgaaGreatU04
import Derived.Test.YtahdilehajdhgaaGreatProg
import Derived.KernelRfl
open Go.Sak.ACK renaming of→BD
open Go.Sak.ACV renaming of→AY
open Go.Sak.AV renaming wf→BW
open List renaming reduceReplicate→Zj
open Nat renaming reduceAdd→Zs,reduceEqDiff→Zk,reduceLeDiff→Zo,reduceMul→Zu,reduceSub→Zt
open Go.Proofs.Tryz renaming prog→Zi
open Go.Sak.Word renaming mk→CE
namespace Go.Sak
open Go Go.RowKit Go.Proofs
set_option linter.unusedVariables false
set_option linter.unusedSimpArgs false
set_option maxRecDepth 10000
set_option maxHeartbeats 8000000
theorem cD:Tryz.prog.follows .mixedOrders=true:=by kernel_rfl
def Kt:AFn:=⟨31,(.seq (.reg [o1 1 (.box 25 0),o1 2 (.mv (ci 0))]) (.seq (.block 0 (.seq (.reg [o1 4 (.ld 3 true 1),o1 5 (.build [(.int .i64 0),(.int .i64 0),(.int .i64 0)] []),o1 6 (.eqs false [(.int .i64),(.int .i64),(.int .i64)] 4 5),o1 7 (.mv 6),o4 8 (.faddr 1 1) 7,o4 9 (.ld 1 false 8) 7,o4 10 (.faddr 0 1) 7,o4 11 (.ld 1 false 10) 7,o4 12 (.bin .leq 9 11) 7,o1 13 (.pick 7 (.const (.bool true)) 12),o1 3 (.mv 13)]) (.cond 3 (.seq (.reg [o1 2 (.mv (ci 0))]) .ret) (.seq (.reg [o1 15 (.faddr 0 1),o1 16 (.ld 1 false 15),o1 17 (.bin .lss 16 (ci 0)),o1 18 (.mv 17),o3 19 (.faddr 1 1) 18,o3 20 (.ld 1 false 19) 18,o3 21 (.faddr 0 1) 18,o3 22 (.ld 1 false 21) 18,o3 23 (.bin .add (ci 9223372036854775807) 22) 18,o3 24 (.bin .gtr 20 23) 18,o1 25 (.pick 18 24 (.const (.bool false))),o1 14 (.mv 25)]) (.cond 14 (.seq (.reg [o1 2 (.mv (ci 9223372036854775807))]) .ret) .skip))))) (.seq (.reg [o1 26 (.faddr 1 1),o1 27 (.ld 1 false 26),o1 28 (.faddr 0 1),o1 29 (.ld 1 false 28),o1 30 (.bin .sub 27 29),o1 2 (.mv 30)]) .ret))),[(2,none)]⟩
theorem Vu:xf Zi 97=some Kt:=by kernel_rfl
theorem jS {iB iD iC:Int}  : bO Zi 97 [.agg [.int .i64 iB,.int .i64 iD,.int .i64 iC]] ((.int .i64 (kN (CE iB iD iC))),[],[]):=by
  refine aG cD Vu (by simp [Kt]) fun hw _=>?_
  simp only [eP,BW,aD] at hw
  repeat' with_reducible first|refine aO (fun h=>?_) (fun h=>?_)|refine aT (fun h=>?_) (fun h=>?_)|refine aC (fun h=>?_) (fun h=>?_)|refine aH (fun h=>?_) (fun h=>?_)|refine aN ?_ ?_ ?_ ?_|refine aP ?_ ?_|refine aU ?_ ?_|refine bE ?_ ?_|simp -implicitDefEqProofs only [Kt,qA,aZ,bJ,aF,aL,qU,Zj,Zs,Zt,Zo,Zk,Zu,reduceIte,reduceCtorEq, *]
  all_goals first
    | (simp; done)
    | exact aE
    | exact aE.symm
    | grind [aD,aR,aJ,kN]

def yM:AFn:=⟨9,(.seq (.reg [o1 2 (.box 25 0),o1 4 (.mv (.const (.bool false)))]) (.seq (.reg [o1 5 (.ld 3 true 2),o1 6 (.call 97 [5]),o1 7 (.mv 1),o1 8 (.bin .geq 6 7),o1 4 (.mv 8)]) .ret)),[(4,none)]⟩
theorem Jt:xf Zi 186=some yM:=by kernel_rfl
theorem rI {iB iD:Int} {iC room:Int}  : bO Zi 186 [.agg [.int .i64 iB,.int .i64 iD,.int .i64 iC],.int .i64 room] ((.bool (oO (CE iB iD iC) room)),[],[]):=by
  refine aG cD Jt (by simp [yM]) fun hw _=>?_
  simp only [eP,BW,aD] at hw
  repeat' with_reducible first|refine aO (fun h=>?_) (fun h=>?_)|refine aT (fun h=>?_) (fun h=>?_)|refine aC (fun h=>?_) (fun h=>?_)|refine aH (fun h=>?_) (fun h=>?_)|refine aN ?_ ?_ ?_ ?_|refine aP ?_ ?_|refine aU ?_ ?_|refine bE ?_ ?_|refine P0 (jS) ?_ ?_ ?_|refine AY (jS) ?_ ?_ ?_|refine BD (jS) ?_ ?_|simp -implicitDefEqProofs only [yM,qA,aZ,bJ,aF,aL,qU,Zj,Zs,Zt,Zo,Zk,Zu,reduceIte,reduceCtorEq, *]
  all_goals first
    | (simp; done)
    | exact aE
    | exact aE.symm
    | grind [aD,aR,aJ,oO]

def Ks:AFn:=⟨15,(.seq (.reg [o1 6 (.mv (.const (.bool false)))]) (.seq (.reg [o1 7 (.mv 0),o1 8 (.mv 1),o1 9 (.bin .geq 7 8),o1 10 (.mv 9),o3 11 (.mv 0) 10,o3 12 (.mv 2) 10,o3 13 (.bin .leq 11 12) 10,o1 14 (.pick 10 13 (.const (.bool false))),o1 6 (.mv 14)]) .ret)),[(6,none)]⟩
theorem Vt:xf Zi 96=some Ks:=by kernel_rfl
theorem vR {n low high:Int}  : bO Zi 96 [.int .i64 n,.int .i64 low,.int .i64 high] ((.bool (aS n low high)),[],[]):=by
  refine aG cD Vt (by simp [Ks]) fun hw _=>?_
  simp only [eP,BW,aD] at hw
  repeat' with_reducible first|refine aO (fun h=>?_) (fun h=>?_)|refine aT (fun h=>?_) (fun h=>?_)|refine aC (fun h=>?_) (fun h=>?_)|refine aH (fun h=>?_) (fun h=>?_)|refine aN ?_ ?_ ?_ ?_|refine aP ?_ ?_|refine aU ?_ ?_|refine bE ?_ ?_|simp -implicitDefEqProofs only [Ks,qA,aZ,bJ,aF,aL,qU,Zj,Zs,Zt,Zo,Zk,Zu,reduceIte,reduceCtorEq, *]
  all_goals first
    | (simp; done)
    | exact aE
    | exact aE.symm
    | grind [aD,aR,aJ,aS]

def Ke:AFn:=⟨29,(.seq (.reg [o1 2 (.box 25 0),o1 4 (.mv (.const (.bool false)))]) (.seq (.reg [o1 5 (.mv (.func 96))]) (.seq (.reg [o1 6 (.mv 5),o1 7 (.faddr 1 2),o1 8 (.ld 1 false 7),o1 9 (.faddr 0 2),o1 10 (.ld 1 false 9),o1 11 (.callv 6 [8,10,(ci 1099511627776)]),o1 12 (.mv 11),o3 13 (.faddr 0 2) 12,o3 14 (.ld 1 false 13) 12,o3 15 (.bin .geq 14 (ci 0)) 12,o1 16 (.pick 12 15 (.const (.bool false))),o1 17 (.mv 16),o3 18 (.ld 3 true 2) 17,o3 19 (.call 97 [18]) 17,o3 20 (.mv 1) 17,o3 21 (.bin .leq 19 20) 17,o1 22 (.pick 17 21 (.const (.bool false))),o1 23 (.mv 22),o3 24 (.mv 5) 23,o3 25 (.faddr 2 2) 23,o3 26 (.ld 1 false 25) 23,o3 27 (.callv 24 [26,(ci 0),(ci 2)]) 23,o1 28 (.pick 23 27 (.const (.bool false))),o1 4 (.mv 28)]) .ret))),[(4,none)]⟩
theorem Ve:xf Zi 52=some Ke:=by kernel_rfl
theorem nD {iB iD:Int} {iC room:Int}  : bO Zi 52 [.agg [.int .i64 iB,.int .i64 iD,.int .i64 iC],.int .i64 room] ((.bool (eX (CE iB iD iC) room)),[],[]):=by
  refine aG cD Ve (by simp [Ke]) fun hw _=>?_
  simp only [eP,BW,aD] at hw
  repeat' with_reducible first|refine aO (fun h=>?_) (fun h=>?_)|refine aT (fun h=>?_) (fun h=>?_)|refine aC (fun h=>?_) (fun h=>?_)|refine aH (fun h=>?_) (fun h=>?_)|refine aN ?_ ?_ ?_ ?_|refine aP ?_ ?_|refine aU ?_ ?_|refine bE ?_ ?_|refine P0 (vR) ?_ ?_ ?_|refine AY (vR) ?_ ?_ ?_|refine BD (vR) ?_ ?_|refine P0 (jS) ?_ ?_ ?_|refine AY (jS) ?_ ?_ ?_|refine BD (jS) ?_ ?_|simp -implicitDefEqProofs only [Ke,qA,aZ,bJ,aF,aL,qU,Zj,Zs,Zt,Zo,Zk,Zu,reduceIte,reduceCtorEq, *]
  all_goals first
    | (simp; done)
    | exact aE
    | exact aE.symm
    | grind [aD,aR,aJ,eX]

def yF:AFn:=⟨11,(.seq (.reg [o1 4 (.mv (.const (.bool false)))]) (.seq (.reg [o1 5 (.mv 0),o1 6 (.bin .geq 5 (ci 0)),o1 7 (.mv 6),o3 8 (.mv 1) 7,o3 9 (.bin .geq 8 (ci 1)) 7,o1 10 (.pick 7 9 (.const (.bool false))),o1 4 (.mv 10)]) .ret)),[(4,none)]⟩
theorem Jk:xf Zi 139=some yF:=by kernel_rfl
theorem rC {p room:Int}  : bO Zi 139 [.int .i64 p,.int .i64 room] ((.bool (sW p room)),[],[]):=by
  refine aG cD Jk (by simp [yF]) fun hw _=>?_
  simp only [eP,BW,aD] at hw
  repeat' with_reducible first|refine aO (fun h=>?_) (fun h=>?_)|refine aT (fun h=>?_) (fun h=>?_)|refine aC (fun h=>?_) (fun h=>?_)|refine aH (fun h=>?_) (fun h=>?_)|refine aN ?_ ?_ ?_ ?_|refine aP ?_ ?_|refine aU ?_ ?_|refine bE ?_ ?_|simp -implicitDefEqProofs only [yF,qA,aZ,bJ,aF,aL,qU,Zj,Zs,Zt,Zo,Zk,Zu,reduceIte,reduceCtorEq, *]
  all_goals first
    | (simp; done)
    | exact aE
    | exact aE.symm
    | grind [aD,aR,aJ,sW]

def Ku:AFn:=⟨12,(.seq (.reg [o1 4 (.mv (ci 0))]) (.seq (.seq (.reg [o1 5 (.mv 0),o1 6 (.mv 1),o1 7 (.call 139 [5,6]),o1 8 (.not 7)]) (.cond 8 (.seq (.reg [o1 4 (.mv (ci 0))]) .ret) .skip)) (.seq (.reg [o1 9 (.mv 0),o1 10 (.mv 1),o1 11 (.bin .rem 9 10),o1 4 (.mv 11)]) .ret))),[(4,none)]⟩
theorem Vv:xf Zi 98=some Ku:=by kernel_rfl
theorem vS {p room:Int}  : bO Zi 98 [.int .i64 p,.int .i64 room] ((.int .i64 (mH p room)),[],[]):=by
  refine aG cD Vv (by simp [Ku]) fun hw _=>?_
  simp only [eP,BW,aD] at hw
  repeat' with_reducible first|refine aO (fun h=>?_) (fun h=>?_)|refine aT (fun h=>?_) (fun h=>?_)|refine aC (fun h=>?_) (fun h=>?_)|refine aH (fun h=>?_) (fun h=>?_)|refine aN ?_ ?_ ?_ ?_|refine aP ?_ ?_|refine aU ?_ ?_|refine bE ?_ ?_|refine P0 (rC) ?_ ?_ ?_|refine AY (rC) ?_ ?_ ?_|refine BD (rC) ?_ ?_|simp -implicitDefEqProofs only [Ku,qA,aZ,bJ,aF,aL,qU,Zj,Zs,Zt,Zo,Zk,Zu,reduceIte,reduceCtorEq, *]
  all_goals first
    | (simp; done)
    | exact aE
    | exact aE.symm
    | grind [aD,aR,aJ,mH,sW]

def yL:AFn:=⟨14,(.seq (.reg [o1 2 (.box 25 0),o1 4 (.mv (.const (.bool false)))]) (.seq (.reg [o1 5 (.faddr 2 2),o1 6 (.ld 1 false 5),o1 7 (.bin .eql 6 (ci 2)),o1 8 (.mv 7),o4 9 (.ld 3 true 2) 8,o4 10 (.mv 1) 8,o4 11 (.call 52 [9,10]) 8,o4 12 (.not 11) 8,o1 13 (.pick 8 (.const (.bool true)) 12),o1 4 (.mv 13)]) .ret)),[(4,none)]⟩
theorem Js:xf Zi 185=some yL:=by kernel_rfl
theorem kH {iB iD:Int} {iC room:Int}  : bO Zi 185 [.agg [.int .i64 iB,.int .i64 iD,.int .i64 iC],.int .i64 room] ((.bool (iS (CE iB iD iC) room)),[],[]):=by
  refine aG cD Js (by simp [yL]) fun hw _=>?_
  simp only [eP,BW,aD] at hw
  repeat' with_reducible first|refine aO (fun h=>?_) (fun h=>?_)|refine aT (fun h=>?_) (fun h=>?_)|refine aC (fun h=>?_) (fun h=>?_)|refine aH (fun h=>?_) (fun h=>?_)|refine aN ?_ ?_ ?_ ?_|refine aP ?_ ?_|refine aU ?_ ?_|refine bE ?_ ?_|refine P0 (nD) ?_ ?_ ?_|refine AY (nD) ?_ ?_ ?_|refine BD (nD) ?_ ?_|simp -implicitDefEqProofs only [yL,qA,aZ,bJ,aF,aL,qU,Zj,Zs,Zt,Zo,Zk,Zu,reduceIte,reduceCtorEq, *]
  all_goals first
    | (simp; done)
    | exact aE
    | exact aE.symm
    | grind [aD,aR,aJ,iS]

def yK:AFn:=⟨8,(.seq (.reg [o1 3 (.alloc 25 [(.int .i64 0),(.int .i64 0),(.int .i64 0)]),o1 4 (.mv (ci 0)),o1 5 (.mv (ci 0))]) (.seq (.reg [o1 6 (.ld 3 true 1),o1 7 (.mv 0),o2 (.st 3 3 6),o1 4 (.mv (ci 0)),o1 5 (.mv 7)]) .ret)),[(3,some (3,true)),(4,none),(5,none)]⟩
theorem Jr:xf Zi 184=some yK:=by kernel_rfl
theorem rH {iB iD:Int} {iC r:Int}  : bO Zi 184 [.int .i64 r,.pv [.int .i64 iB,.int .i64 iD,.int .i64 iC]] ((.tup [.agg (dY (((((CE iB iD iC),0,r):Word×Int×Int)).1)),.int .i64 (((((CE iB iD iC),0,r):Word×Int×Int)).2.1),.int .i64 (((((CE iB iD iC),0,r):Word×Int×Int)).2.2)]),[],[]):=by
  refine aG cD Jr (by simp [yK]) fun hw _=>?_
  simp only [eP,BW,aD] at hw
  repeat' with_reducible first|refine aO (fun h=>?_) (fun h=>?_)|refine aT (fun h=>?_) (fun h=>?_)|refine aC (fun h=>?_) (fun h=>?_)|refine aH (fun h=>?_) (fun h=>?_)|refine aN ?_ ?_ ?_ ?_|refine aP ?_ ?_|refine aU ?_ ?_|refine bE ?_ ?_|simp -implicitDefEqProofs only [yK,qA,aZ,bJ,aF,aL,qU,Zj,Zs,Zt,Zo,Zk,Zu,reduceIte,reduceCtorEq,dY, *]
  all_goals first
    | (simp; done)
    | exact aE
    | exact aE.symm
    | grind [aD,aR,aJ]

def yD:AFn:=⟨50,(.seq (.reg [o1 2 (.box 25 0),o1 4 (.alloc 25 [(.int .i64 0),(.int .i64 0),(.int .i64 0)]),o1 5 (.mv (ci 0)),o1 6 (.mv (ci 0))]) (.seq (.reg [o1 9 (.mkfn (.func 184) [] [2]),o1 7 (.mv 9)]) (.seq (.block 0 (.seq (.reg [o1 11 (.ld 3 true 2),o1 12 (.mv 1),o1 13 (.call 185 [11,12]),o1 10 (.mv 13)]) (.cond 10 (.seq (.reg [o1 14 (.mv 7),o1 15 (.callv 14 [(ci 7)]),o1 16 (.ext 15 0),o1 17 (.ext 15 1),o1 18 (.ext 15 2),o2 (.st 3 4 16),o1 5 (.mv 17),o1 6 (.mv 18)]) .ret) (.seq (.reg [o1 20 (.faddr 2 2),o1 21 (.ld 1 false 20),o1 22 (.bin .eql 21 (ci 1)),o1 19 (.mv 22)]) (.cond 19 (.seq (.reg [o1 23 (.mv 7),o1 24 (.callv 23 [(ci 6)]),o1 25 (.ext 24 0),o1 26 (.ext 24 1),o1 27 (.ext 24 2),o2 (.st 3 4 25),o1 5 (.mv 26),o1 6 (.mv 27)]) .ret) (.seq (.reg [o1 29 (.ld 3 true 2),o1 30 (.mv 1),o1 31 (.call 186 [29,30]),o1 32 (.mv 31),o4 33 (.faddr 1 2) 32,o4 34 (.ld 1 false 33) 32,o4 35 (.bin .eql 34 (ci 1099511627776)) 32,o1 36 (.pick 32 (.const (.bool true)) 35),o1 28 (.mv 36)]) (.cond 28 (.seq (.reg [o1 37 (.mv 7),o1 38 (.callv 37 [(ci 2)]),o1 39 (.ext 38 0),o1 40 (.ext 38 1),o1 41 (.ext 38 2),o2 (.st 3 4 39),o1 5 (.mv 40),o1 6 (.mv 41)]) .ret) .skip))))))) (.seq (.reg [o1 42 (.faddr 1 2),o1 43 (.ld 1 false 42),o1 8 (.mv 43)]) (.seq (.reg [o1 44 (.faddr 1 2),o1 45 (.ld 1 false 44),o1 46 (.bin .add 45 (ci 1)),o1 47 (.faddr 1 2),o2 (.st 1 47 46)]) (.seq (.reg [o1 48 (.ld 3 true 2),o1 49 (.mv 8),o2 (.st 3 4 48),o1 5 (.mv 49),o1 6 (.mv (ci 1))]) .ret)))))),[(4,some (3,true)),(5,none),(6,none)]⟩
theorem Ji:xf Zi 125=some yD:=by kernel_rfl
theorem rA {iB iD:Int} {iC room:Int}  : bO Zi 125 [.agg [.int .i64 iB,.int .i64 iD,.int .i64 iC],.int .i64 room] ((.tup [.agg (dY ((kC (CE iB iD iC) room).1)),.int .i64 ((kC (CE iB iD iC) room).2.1),.int .i64 ((kC (CE iB iD iC) room).2.2)]),[],[]):=by
  refine aG cD Ji (by simp [yD]) fun hw _=>?_
  simp only [eP,BW,aD] at hw
  repeat' with_reducible first|refine aO (fun h=>?_) (fun h=>?_)|refine aT (fun h=>?_) (fun h=>?_)|refine aC (fun h=>?_) (fun h=>?_)|refine aH (fun h=>?_) (fun h=>?_)|refine aN ?_ ?_ ?_ ?_|refine aP ?_ ?_|refine aU ?_ ?_|refine bE ?_ ?_|refine AC.viewAll ?_ ?_ ?_|refine P0 (kH) ?_ ?_ ?_|refine AY (kH) ?_ ?_ ?_|refine BD (kH) ?_ ?_|refine P0 (rI) ?_ ?_ ?_|refine AY (rI) ?_ ?_ ?_|refine BD (rI) ?_ ?_|refine P0 (rH) ?_ ?_ ?_|refine AY (rH) ?_ ?_ ?_|refine BD (rH) ?_ ?_|simp -implicitDefEqProofs only [yD,qA,aZ,bJ,aF,aL,qU,Zj,Zs,Zt,Zo,Zk,Zu,reduceIte,reduceCtorEq,dY, *]
  all_goals first
    | (simp; done)
    | exact aE
    | exact aE.symm
    | grind [aD,aR,aJ,kC,iS,eX,aS]

def yN:AFn:=⟨8,(.seq (.reg [o1 3 (.alloc 25 [(.int .i64 0),(.int .i64 0),(.int .i64 0)]),o1 4 (.mv (ci 0)),o1 5 (.mv (ci 0))]) (.seq (.reg [o1 6 (.ld 3 true 1),o1 7 (.mv 0),o2 (.st 3 3 6),o1 4 (.mv (ci 0)),o1 5 (.mv 7)]) .ret)),[(3,some (3,true)),(4,none),(5,none)]⟩
theorem Ju:xf Zi 187=some yN:=by kernel_rfl
theorem rJ {iB iD:Int} {iC r:Int}  : bO Zi 187 [.int .i64 r,.pv [.int .i64 iB,.int .i64 iD,.int .i64 iC]] ((.tup [.agg (dY (((((CE iB iD iC),0,r):Word×Int×Int)).1)),.int .i64 (((((CE iB iD iC),0,r):Word×Int×Int)).2.1),.int .i64 (((((CE iB iD iC),0,r):Word×Int×Int)).2.2)]),[],[]):=by
  refine aG cD Ju (by simp [yN]) fun hw _=>?_
  simp only [eP,BW,aD] at hw
  repeat' with_reducible first|refine aO (fun h=>?_) (fun h=>?_)|refine aT (fun h=>?_) (fun h=>?_)|refine aC (fun h=>?_) (fun h=>?_)|refine aH (fun h=>?_) (fun h=>?_)|refine aN ?_ ?_ ?_ ?_|refine aP ?_ ?_|refine aU ?_ ?_|refine bE ?_ ?_|simp -implicitDefEqProofs only [yN,qA,aZ,bJ,aF,aL,qU,Zj,Zs,Zt,Zo,Zk,Zu,reduceIte,reduceCtorEq,dY, *]
  all_goals first
    | (simp; done)
    | exact aE
    | exact aE.symm
    | grind [aD,aR,aJ]

def yE:AFn:=⟨45,(.seq (.reg [o1 2 (.box 25 0),o1 4 (.alloc 25 [(.int .i64 0),(.int .i64 0),(.int .i64 0)]),o1 5 (.mv (ci 0)),o1 6 (.mv (ci 0))]) (.seq (.reg [o1 9 (.mkfn (.func 187) [] [2]),o1 7 (.mv 9)]) (.seq (.block 0 (.seq (.reg [o1 11 (.ld 3 true 2),o1 12 (.mv 1),o1 13 (.call 185 [11,12]),o1 10 (.mv 13)]) (.cond 10 (.seq (.reg [o1 14 (.mv 7),o1 15 (.callv 14 [(ci 7)]),o1 16 (.ext 15 0),o1 17 (.ext 15 1),o1 18 (.ext 15 2),o2 (.st 3 4 16),o1 5 (.mv 17),o1 6 (.mv 18)]) .ret) (.seq (.reg [o1 20 (.ld 3 true 2),o1 21 (.call 97 [20]),o1 22 (.bin .gtr 21 (ci 0)),o1 19 (.mv 22)]) (.cond 19 (.seq (.reg [o1 23 (.faddr 0 2),o1 24 (.ld 1 false 23),o1 8 (.mv 24)]) (.seq (.reg [o1 25 (.faddr 0 2),o1 26 (.ld 1 false 25),o1 27 (.bin .add 26 (ci 1)),o1 28 (.faddr 0 2),o2 (.st 1 28 27)]) (.seq (.reg [o1 29 (.ld 3 true 2),o1 30 (.mv 8),o2 (.st 3 4 29),o1 5 (.mv 30),o1 6 (.mv (ci 1))]) .ret))) (.seq (.reg [o1 32 (.faddr 2 2),o1 33 (.ld 1 false 32),o1 34 (.bin .eql 33 (ci 1)),o1 31 (.mv 34)]) (.cond 31 (.seq (.reg [o1 35 (.mv 7),o1 36 (.callv 35 [(ci 6)]),o1 37 (.ext 36 0),o1 38 (.ext 36 1),o1 39 (.ext 36 2),o2 (.st 3 4 37),o1 5 (.mv 38),o1 6 (.mv 39)]) .ret) .skip))))))) (.seq (.reg [o1 40 (.mv 7),o1 41 (.callv 40 [(ci 4)]),o1 42 (.ext 41 0),o1 43 (.ext 41 1),o1 44 (.ext 41 2),o2 (.st 3 4 42),o1 5 (.mv 43),o1 6 (.mv 44)]) .ret)))),[(4,some (3,true)),(5,none),(6,none)]⟩
theorem Jj:xf Zi 126=some yE:=by kernel_rfl
theorem rB {iB iD:Int} {iC room:Int}  : bO Zi 126 [.agg [.int .i64 iB,.int .i64 iD,.int .i64 iC],.int .i64 room] ((.tup [.agg (dY ((qV (CE iB iD iC) room).1)),.int .i64 ((qV (CE iB iD iC) room).2.1),.int .i64 ((qV (CE iB iD iC) room).2.2)]),[],[]):=by
  refine aG cD Jj (by simp [yE]) fun hw _=>?_
  simp only [eP,BW,aD] at hw
  repeat' with_reducible first|refine aO (fun h=>?_) (fun h=>?_)|refine aT (fun h=>?_) (fun h=>?_)|refine aC (fun h=>?_) (fun h=>?_)|refine aH (fun h=>?_) (fun h=>?_)|refine aN ?_ ?_ ?_ ?_|refine aP ?_ ?_|refine aU ?_ ?_|refine bE ?_ ?_|refine AC.viewAll ?_ ?_ ?_|refine P0 (kH) ?_ ?_ ?_|refine AY (kH) ?_ ?_ ?_|refine BD (kH) ?_ ?_|refine P0 (jS) ?_ ?_ ?_|refine AY (jS) ?_ ?_ ?_|refine BD (jS) ?_ ?_|refine P0 (rJ) ?_ ?_ ?_|refine AY (rJ) ?_ ?_ ?_|refine BD (rJ) ?_ ?_|simp -implicitDefEqProofs only [yE,qA,aZ,bJ,aF,aL,qU,Zj,Zs,Zt,Zo,Zk,Zu,reduceIte,reduceCtorEq,dY, *]
  all_goals first
    | (simp; done)
    | exact aE
    | exact aE.symm
    | grind [aD,aR,aJ,qV,iS,eX,aS,kN]

def Kk:AFn:=⟨28,(.seq (.reg [o1 2 (.box 25 0),o1 4 (.mv (ci 0)),o1 5 (.mv (ci 0))]) (.seq (.reg [o1 13 (.ld 3 true 2),o1 14 (.mv 1),o1 15 (.call 125 [13,14]),o1 12 (.mv 15),o1 16 (.ext 12 0),o1 17 (.ext 12 1),o1 18 (.ext 12 2),o1 6 (.alloc 25 [(.int .i64 0),(.int .i64 0),(.int .i64 0)]),o2 (.st 3 6 16),o1 7 (.mv 17),o1 8 (.mv 18)]) (.seq (.reg [o1 20 (.ld 3 true 2),o1 21 (.mv 1),o1 22 (.call 126 [20,21]),o1 19 (.mv 22),o1 23 (.ext 19 0),o1 24 (.ext 19 1),o1 25 (.ext 19 2),o1 9 (.alloc 25 [(.int .i64 0),(.int .i64 0),(.int .i64 0)]),o2 (.st 3 9 23),o1 10 (.mv 24),o1 11 (.mv 25)]) (.seq (.reg [o1 26 (.mv 8),o1 27 (.mv 11),o1 4 (.mv 26),o1 5 (.mv 27)]) .ret)))),[(4,none),(5,none)]⟩
theorem Vm:xf Zi 74=some Kk:=by kernel_rfl
theorem vL {iB iD:Int} {iC room:Int}  : bO Zi 74 [.agg [.int .i64 iB,.int .i64 iD,.int .i64 iC],.int .i64 room] ((.tup [.int .i64 ((qS (CE iB iD iC) room).1),.int .i64 ((qS (CE iB iD iC) room).2)]),[],[]):=by
  refine aG cD Vm (by simp [Kk]) fun hw _=>?_
  simp only [eP,BW,aD] at hw
  repeat' with_reducible first|refine aO (fun h=>?_) (fun h=>?_)|refine aT (fun h=>?_) (fun h=>?_)|refine aC (fun h=>?_) (fun h=>?_)|refine aH (fun h=>?_) (fun h=>?_)|refine aN ?_ ?_ ?_ ?_|refine aP ?_ ?_|refine aU ?_ ?_|refine bE ?_ ?_|refine P0 (rA) ?_ ?_ ?_|refine AY (rA) ?_ ?_ ?_|refine BD (rA) ?_ ?_|refine P0 (rB) ?_ ?_ ?_|refine AY (rB) ?_ ?_ ?_|refine BD (rB) ?_ ?_|simp -implicitDefEqProofs only [Kk,qA,aZ,bJ,aF,aL,qU,Zj,Zs,Zt,Zo,Zk,Zu,reduceIte,reduceCtorEq,dY, *]
  all_goals first
    | (simp; done)
    | exact aE
    | exact aE.symm
    | grind [aD,aR,aJ,qS]

def Fq:AFn:=⟨38,(.seq (.reg [o1 3 (.box 25 0),o1 6 (.alloc 25 [(.int .i64 0),(.int .i64 0),(.int .i64 0)]),o1 7 (.mv (.const (.bool false)))]) (.seq (.reg [o1 9 (.mv 2),o1 10 (.faddr 1 3),o1 11 (.ld 1 false 10),o1 12 (.build [(.int .i64 0),(.int .i64 0),(.int .i64 0)] [(0,1,9),(1,1,11),(2,1,(ci 0))]),o1 8 (.alloc 25 [(.int .i64 0),(.int .i64 0),(.int .i64 0)]),o2 (.st 3 8 12)]) (.seq (.seq (.reg [o1 13 (.ld 3 true 3),o1 14 (.ld 3 true 8),o1 15 (.eqs true [(.int .i64),(.int .i64),(.int .i64)] 13 14),o1 16 (.mv 15),o4 17 (.ld 3 true 3) 16,o4 18 (.mv 1) 16,o4 19 (.call 185 [17,18]) 16,o1 20 (.pick 16 (.const (.bool true)) 19),o1 21 (.mv 20),o4 22 (.ld 3 true 3) 21,o4 23 (.mv 1) 21,o4 24 (.call 186 [22,23]) 21,o4 25 (.not 24) 21,o1 26 (.pick 21 (.const (.bool true)) 25),o1 27 (.mv 26),o4 28 (.ld 3 true 3) 27,o4 29 (.call 97 [28]) 27,o4 30 (.bin .eql 29 (ci 0)) 27,o1 31 (.pick 27 (.const (.bool true)) 30)]) (.cond 31 (.seq (.reg [o1 32 (.ld 3 true 3),o2 (.st 3 6 32),o1 7 (.mv (.const (.bool false)))]) .ret) .skip)) (.seq (.reg [o1 33 (.faddr 0 3),o1 34 (.ld 1 false 33),o1 35 (.bin .add 34 (ci 1)),o1 36 (.faddr 0 3),o2 (.st 1 36 35)]) (.seq (.reg [o1 37 (.ld 3 true 3),o2 (.st 3 6 37),o1 7 (.mv (.const (.bool true)))]) .ret))))),[(6,some (3,true)),(7,none)]⟩
theorem Ry:xf Zi 259=some Fq:=by kernel_rfl
def Gj:AFn:=⟨17,(.seq (.reg [o1 2 (.box 25 0),o1 4 (.alloc 25 [(.int .i64 0),(.int .i64 0),(.int .i64 0)])]) (.seq (.seq (.reg [o1 5 (.mv 1),o1 6 (.bin .eql 5 (ci 1)),o1 7 (.mv 6),o4 8 (.mv 1) 7,o4 9 (.bin .eql 8 (ci 2)) 7,o1 10 (.pick 7 (.const (.bool true)) 9)]) (.cond 10 (.reg [o1 11 (.faddr 2 2),o1 12 (.ld 1 false 11),o1 13 (.mv 1),o1 14 (.mx 12 13),o1 15 (.faddr 2 2),o2 (.st 1 15 14)]) .skip)) (.seq (.reg [o1 16 (.ld 3 true 2),o2 (.st 3 4 16)]) .ret))),[(4,some (3,true))]⟩
theorem Sq:xf Zi 277=some Gj:=by kernel_rfl
def Kl:AFn:=⟨15,(.seq (.reg [o1 2 (.mv (ci 0))]) (.seq (.seq (.reg [o1 3 (.mv 0)]) (.block 0 (.seq (.seq (.reg [o1 5 (.bin .eql 3 (ci 1)),o1 4 (.mv 5)]) (.cond 4 .skip (.seq (.reg [o1 6 (.bin .eql 3 (ci 2)),o1 4 (.mv 6)]) (.cond 4 .skip (.reg [o1 7 (.bin .eql 3 (ci 3)),o1 4 (.mv 7)]))))) (.cond 4 (.seq (.reg [o1 2 (.mv (ci 1))]) .ret) (.seq (.seq (.reg [o1 9 (.bin .eql 3 (ci 4)),o1 8 (.mv 9)]) (.cond 8 .skip (.seq (.reg [o1 10 (.bin .eql 3 (ci 5)),o1 8 (.mv 10)]) (.cond 8 .skip (.reg [o1 11 (.bin .eql 3 (ci 6)),o1 8 (.mv 11)]))))) (.cond 8 (.seq (.reg [o1 2 (.mv (ci 2))]) .ret) (.seq (.seq (.reg [o1 13 (.bin .eql 3 (ci 7)),o1 12 (.mv 13)]) (.cond 12 .skip (.reg [o1 14 (.bin .eql 3 (ci 8)),o1 12 (.mv 14)]))) (.cond 12 (.seq (.reg [o1 2 (.mv (ci 3))]) .ret) .skip)))))))) (.seq (.reg [o1 2 (.mv (ci 0))]) .ret))),[(2,none)]⟩
theorem Vn:xf Zi 75=some Kl:=by kernel_rfl
theorem cJ {k:Int}  : bO Zi 75 [.int .i64 k] ((.int .i64 (dD k)),[],[]):=by
  refine aG cD Vn (by simp [Kl]) fun hw _=>?_
  simp only [eP,BW,aD] at hw
  repeat' with_reducible first|refine aO (fun h=>?_) (fun h=>?_)|refine aT (fun h=>?_) (fun h=>?_)|refine aC (fun h=>?_) (fun h=>?_)|refine aH (fun h=>?_) (fun h=>?_)|refine aN ?_ ?_ ?_ ?_|refine aP ?_ ?_|refine aU ?_ ?_|refine bE ?_ ?_|simp -implicitDefEqProofs only [Kl,qA,aZ,bJ,aF,aL,qU,Zj,Zs,Zt,Zo,Zk,Zu,reduceIte,reduceCtorEq, *]
  all_goals first
    | (simp; done)
    | exact aE
    | exact aE.symm
    | grind [aD,aR,aJ,dD]

def Ki:AFn:=⟨6,(.seq (.reg [o1 2 (.mv (.const (.bool false)))]) (.seq (.reg [o1 3 (.mv 0),o1 4 (.call 75 [3]),o1 5 (.bin .gtr 4 (ci 0)),o1 2 (.mv 5)]) .ret)),[(2,none)]⟩
theorem Vk:xf Zi 65=some Ki:=by kernel_rfl
theorem vK {k:Int}  : bO Zi 65 [.int .i64 k] ((.bool (oL k)),[],[]):=by
  refine aG cD Vk (by simp [Ki]) fun hw _=>?_
  simp only [eP,BW,aD] at hw
  repeat' with_reducible first|refine aO (fun h=>?_) (fun h=>?_)|refine aT (fun h=>?_) (fun h=>?_)|refine aC (fun h=>?_) (fun h=>?_)|refine aH (fun h=>?_) (fun h=>?_)|refine aN ?_ ?_ ?_ ?_|refine aP ?_ ?_|refine aU ?_ ?_|refine bE ?_ ?_|refine P0 (cJ) ?_ ?_ ?_|refine AY (cJ) ?_ ?_ ?_|refine BD (cJ) ?_ ?_|simp -implicitDefEqProofs only [Ki,qA,aZ,bJ,aF,aL,qU,Zj,Zs,Zt,Zo,Zk,Zu,reduceIte,reduceCtorEq, *]
  all_goals first
    | (simp; done)
    | exact aE
    | exact aE.symm
    | grind [aD,aR,aJ,oL]

def yA:AFn:=⟨9,(.seq (.reg [o1 2 (.mv (.const (.bool false)))]) (.seq (.reg [o1 3 (.mv 0),o1 4 (.bin .eql 3 (ci 3)),o1 5 (.mv 4),o4 6 (.mv 0) 5,o4 7 (.bin .eql 6 (ci 6)) 5,o1 8 (.pick 5 (.const (.bool true)) 7),o1 2 (.mv 8)]) .ret)),[(2,none)]⟩
theorem Jf:xf Zi 104=some yA:=by kernel_rfl
theorem qY {k:Int}  : bO Zi 104 [.int .i64 k] ((.bool (oM k)),[],[]):=by
  refine aG cD Jf (by simp [yA]) fun hw _=>?_
  simp only [eP,BW,aD] at hw
  repeat' with_reducible first|refine aO (fun h=>?_) (fun h=>?_)|refine aT (fun h=>?_) (fun h=>?_)|refine aC (fun h=>?_) (fun h=>?_)|refine aH (fun h=>?_) (fun h=>?_)|refine aN ?_ ?_ ?_ ?_|refine aP ?_ ?_|refine aU ?_ ?_|refine bE ?_ ?_|simp -implicitDefEqProofs only [yA,qA,aZ,bJ,aF,aL,qU,Zj,Zs,Zt,Zo,Zk,Zu,reduceIte,reduceCtorEq, *]
  all_goals first
    | (simp; done)
    | exact aE
    | exact aE.symm
    | grind [aD,aR,aJ,oM]

end Go.Sak
