/- Part U11 of the proofs about the program: K2. Conditions: none. -/
import Derived.Test.YtahdilehajdhgaaGreatU10
open Go.Sak.ACK renaming of→BD
open Go.Sak.ACV renaming of→AY
open List renaming reduceReplicate→Zj
open Nat renaming reduceAdd→Zs,reduceEqDiff→Zk,reduceLeDiff→Zo,reduceMul→Zu,reduceSub→Zt
open Go.Sak.Thread renaming mk→DR
open Go.Proofs.Tryz renaming prog→Zi
namespace Go.Sak
open Go Go.RowKit Go.Proofs
set_option linter.unusedVariables false
set_option linter.unusedSimpArgs false
set_option maxRecDepth 10000
set_option maxHeartbeats 8000000
def Km:AFn:=⟨19,(.seq (.reg [o1 1 (.box 135 0),o1 2 (.alloc 42 [(.int .i64 0),(.int .i64 0),(.int .i64 0),(.int .i64 0),(.int .i64 0),(.int .i64 0),(.int .i64 0),(.int .i64 0),(.bool false),(.int .i64 0),(.int .i64 0)])]) (.seq (.reg [o1 3 (.faddr 0 1),o1 4 (.faddr 1 3),o1 5 (.ld 1 false 4),o1 6 (.faddr 0 1),o1 7 (.faddr 2 6),o1 8 (.ld 1 false 7),o1 9 (.faddr 0 1),o1 10 (.faddr 3 9),o1 11 (.ld 1 false 10),o1 12 (.faddr 0 1),o1 13 (.faddr 9 12),o1 14 (.ld 1 false 13),o1 15 (.faddr 0 1),o1 16 (.faddr 10 15),o1 17 (.ld 1 false 16),o1 18 (.build [(.int .i64 0),(.int .i64 0),(.int .i64 0),(.int .i64 0),(.int .i64 0),(.int .i64 0),(.int .i64 0),(.int .i64 0),(.bool false),(.int .i64 0),(.int .i64 0)] [(1,1,5),(2,1,8),(3,1,11),(9,1,14),(10,1,17)]),o2 (.st 11 2 18)]) .ret)),[(2,some (11,true))]⟩
theorem Vo:xf Zi 91=some Km:=by kernel_rfl
theorem vN {fB bY:Int} {dB cB:Int} {fA cZ:Int} {cA bN:Int} {bZ:Bool} {dA cY:Int}  : bO Zi 91 [.agg [.int .i64 fB,.int .i64 bY,.int .i64 dB,.int .i64 cB,.int .i64 fA,.int .i64 cZ,.int .i64 cA,.int .i64 bN,.bool bZ,.int .i64 dA,.int .i64 cY]] ((.agg (bW (qJ (DR fB bY dB cB fA cZ cA bN bZ dA cY)))),[],[]):=by
  refine aG cD Vo (by simp [Km]) fun hw _=>?_
  simp only [eP,AV.wf,aD] at hw
  repeat' with_reducible first|refine aO (fun h=>?_) (fun h=>?_)|refine aT (fun h=>?_) (fun h=>?_)|refine aC (fun h=>?_) (fun h=>?_)|refine aH (fun h=>?_) (fun h=>?_)|refine aN ?_ ?_ ?_ ?_|refine aP ?_ ?_|refine aU ?_ ?_|refine bE ?_ ?_|simp -implicitDefEqProofs only [Km,qA,aZ,bJ,aF,aL,qU,Zj,Zs,Zt,Zo,Zk,Zu,reduceIte,reduceCtorEq,bW,qJ, *]
  all_goals first
    | (simp; done)
    | exact aE
    | exact aE.symm
    | grind [aD,aR,aJ]

def Ko:AFn:=⟨15,(.seq (.reg [o1 6 (.mv (.const (.bool false)))]) (.seq (.reg [o1 7 (.mv 0),o1 8 (.mv 1),o1 9 (.bin .geq 7 8),o1 10 (.mv 9),o3 11 (.mv 0) 10,o3 12 (.mv 2) 10,o3 13 (.bin .leq 11 12) 10,o1 14 (.pick 10 13 (.const (.bool false))),o1 6 (.mv 14)]) .ret)),[(6,none)]⟩
theorem Vp:xf Zi 92=some Ko:=by kernel_rfl
theorem jR {n low high:Int}  : bO Zi 92 [.int .i64 n,.int .i64 low,.int .i64 high] ((.bool (aS n low high)),[],[]):=by
  refine aG cD Vp (by simp [Ko]) fun hw _=>?_
  simp only [eP,AV.wf,aD] at hw
  repeat' with_reducible first|refine aO (fun h=>?_) (fun h=>?_)|refine aT (fun h=>?_) (fun h=>?_)|refine aC (fun h=>?_) (fun h=>?_)|refine aH (fun h=>?_) (fun h=>?_)|refine aN ?_ ?_ ?_ ?_|refine aP ?_ ?_|refine aU ?_ ?_|refine bE ?_ ?_|simp -implicitDefEqProofs only [Ko,qA,aZ,bJ,aF,aL,qU,Zj,Zs,Zt,Zo,Zk,Zu,reduceIte,reduceCtorEq, *]
  all_goals first
    | (simp; done)
    | exact aE
    | exact aE.symm
    | grind [aD,aR,aJ,aS]

def Kp:AFn:=⟨19,(.seq (.reg [o1 1 (.box 135 0),o1 2 (.mv (.const (.bool false)))]) (.seq (.reg [o1 3 (.faddr 0 1),o1 4 (.faddr 1 3),o1 5 (.ld 1 false 4),o1 6 (.call 65 [5]),o1 7 (.mv 6),o4 8 (.faddr 0 1) 7,o4 9 (.faddr 1 8) 7,o4 10 (.ld 1 false 9) 7,o4 11 (.bin .eql 10 (ci 0)) 7,o4 12 (.mv 11) 7,o3 13 (.faddr 0 1) 12,o3 14 (.faddr 0 13) 12,o3 15 (.ld 1 false 14) 12,o3 16 (.bin .eql 15 (ci 0)) 12,o4 17 (.pick 12 16 (.const (.bool false))) 7,o1 18 (.pick 7 (.const (.bool true)) 17),o1 2 (.mv 18)]) .ret)),[(2,none)]⟩
theorem Vq:xf Zi 93=some Kp:=by kernel_rfl
theorem vO {fB bY:Int} {dB cB:Int} {fA cZ:Int} {cA bN:Int} {bZ:Bool} {dA cY:Int}  : bO Zi 93 [.agg [.int .i64 fB,.int .i64 bY,.int .i64 dB,.int .i64 cB,.int .i64 fA,.int .i64 cZ,.int .i64 cA,.int .i64 bN,.bool bZ,.int .i64 dA,.int .i64 cY]] ((.bool (lG (DR fB bY dB cB fA cZ cA bN bZ dA cY))),[],[]):=by
  refine aG cD Vq (by simp [Kp]) fun hw _=>?_
  simp only [eP,AV.wf,aD] at hw
  repeat' with_reducible first|refine aO (fun h=>?_) (fun h=>?_)|refine aT (fun h=>?_) (fun h=>?_)|refine aC (fun h=>?_) (fun h=>?_)|refine aH (fun h=>?_) (fun h=>?_)|refine aN ?_ ?_ ?_ ?_|refine aP ?_ ?_|refine aU ?_ ?_|refine bE ?_ ?_|refine P0 (vK) ?_ ?_ ?_|refine AY (vK) ?_ ?_ ?_|refine BD (vK) ?_ ?_|simp -implicitDefEqProofs only [Kp,qA,aZ,bJ,aF,aL,qU,Zj,Zs,Zt,Zo,Zk,Zu,reduceIte,reduceCtorEq, *]
  all_goals first
    | (simp; done)
    | exact aE
    | exact aE.symm
    | grind [aD,aR,aJ,lG]

def Kq:AFn:=⟨25,(.seq (.reg [o1 1 (.box 135 0),o1 2 (.mv (.const (.bool false)))]) (.seq (.reg [o1 3 (.faddr 0 1),o1 4 (.faddr 3 3),o1 5 (.ld 1 false 4),o1 6 (.call 92 [5,(ci 0),(ci 1099511627776)]),o1 7 (.mv 6),o3 8 (.faddr 0 1) 7,o3 9 (.faddr 1 8) 7,o3 10 (.ld 1 false 9) 7,o3 11 (.call 104 [10]) 7,o3 12 (.mv 11) 7,o4 13 (.faddr 0 1) 12,o4 14 (.faddr 3 13) 12,o4 15 (.ld 1 false 14) 12,o4 16 (.bin .eql 15 (ci 0)) 12,o4 17 (.mv 16) 12,o3 18 (.faddr 0 1) 17,o3 19 (.faddr 8 18) 17,o3 20 (.ld 1 false 19) 17,o3 21 (.not 20) 17,o4 22 (.pick 17 21 (.const (.bool false))) 12,o3 23 (.pick 12 (.const (.bool true)) 22) 7,o1 24 (.pick 7 23 (.const (.bool false))),o1 2 (.mv 24)]) .ret)),[(2,none)]⟩
theorem Vr:xf Zi 94=some Kq:=by kernel_rfl
theorem vP {fB bY:Int} {dB cB:Int} {fA cZ:Int} {cA bN:Int} {bZ:Bool} {dA cY:Int}  : bO Zi 94 [.agg [.int .i64 fB,.int .i64 bY,.int .i64 dB,.int .i64 cB,.int .i64 fA,.int .i64 cZ,.int .i64 cA,.int .i64 bN,.bool bZ,.int .i64 dA,.int .i64 cY]] ((.bool (lH (DR fB bY dB cB fA cZ cA bN bZ dA cY))),[],[]):=by
  refine aG cD Vr (by simp [Kq]) fun hw _=>?_
  simp only [eP,AV.wf,aD] at hw
  repeat' with_reducible first|refine aO (fun h=>?_) (fun h=>?_)|refine aT (fun h=>?_) (fun h=>?_)|refine aC (fun h=>?_) (fun h=>?_)|refine aH (fun h=>?_) (fun h=>?_)|refine aN ?_ ?_ ?_ ?_|refine aP ?_ ?_|refine aU ?_ ?_|refine bE ?_ ?_|refine P0 (qY) ?_ ?_ ?_|refine AY (qY) ?_ ?_ ?_|refine BD (qY) ?_ ?_|refine P0 (jR) ?_ ?_ ?_|refine AY (jR) ?_ ?_ ?_|refine BD (jR) ?_ ?_|simp -implicitDefEqProofs only [Kq,qA,aZ,bJ,aF,aL,qU,Zj,Zs,Zt,Zo,Zk,Zu,reduceIte,reduceCtorEq, *]
  all_goals first
    | (simp; done)
    | exact aE
    | exact aE.symm
    | grind [aD,aR,aJ,lH]

def Kr:AFn:=⟨25,(.seq (.reg [o1 1 (.box 135 0),o1 2 (.mv (.const (.bool false)))]) (.seq (.reg [o1 3 (.faddr 0 1),o1 4 (.faddr 4 3),o1 5 (.ld 1 false 4),o1 6 (.call 92 [5,(ci 0),(ci 11)]),o1 7 (.mv 6),o3 8 (.faddr 0 1) 7,o3 9 (.faddr 7 8) 7,o3 10 (.ld 1 false 9) 7,o3 11 (.call 92 [10,(ci 0),(ci 1099511627776)]) 7,o1 12 (.pick 7 11 (.const (.bool false))),o1 13 (.mv 12),o3 14 (.faddr 0 1) 13,o3 15 (.faddr 5 14) 13,o3 16 (.ld 1 false 15) 13,o3 17 (.call 92 [16,(ci 0),(ci 1099511627776)]) 13,o1 18 (.pick 13 17 (.const (.bool false))),o1 19 (.mv 18),o3 20 (.faddr 0 1) 19,o3 21 (.faddr 6 20) 19,o3 22 (.ld 1 false 21) 19,o3 23 (.call 92 [22,(ci (-1)),(ci 1099511627776)]) 19,o1 24 (.pick 19 23 (.const (.bool false))),o1 2 (.mv 24)]) .ret)),[(2,none)]⟩
theorem Vs:xf Zi 95=some Kr:=by kernel_rfl
theorem vQ {fB bY:Int} {dB cB:Int} {fA cZ:Int} {cA bN:Int} {bZ:Bool} {dA cY:Int}  : bO Zi 95 [.agg [.int .i64 fB,.int .i64 bY,.int .i64 dB,.int .i64 cB,.int .i64 fA,.int .i64 cZ,.int .i64 cA,.int .i64 bN,.bool bZ,.int .i64 dA,.int .i64 cY]] ((.bool (gL (DR fB bY dB cB fA cZ cA bN bZ dA cY))),[],[]):=by
  refine aG cD Vs (by simp [Kr]) fun hw _=>?_
  simp only [eP,AV.wf,aD] at hw
  repeat' with_reducible first|refine aO (fun h=>?_) (fun h=>?_)|refine aT (fun h=>?_) (fun h=>?_)|refine aC (fun h=>?_) (fun h=>?_)|refine aH (fun h=>?_) (fun h=>?_)|refine aN ?_ ?_ ?_ ?_|refine aP ?_ ?_|refine aU ?_ ?_|refine bE ?_ ?_|refine P0 (jR) ?_ ?_ ?_|refine AY (jR) ?_ ?_ ?_|refine BD (jR) ?_ ?_|simp -implicitDefEqProofs only [Kr,qA,aZ,bJ,aF,aL,qU,Zj,Zs,Zt,Zo,Zk,Zu,reduceIte,reduceCtorEq, *]
  all_goals first
    | (simp; done)
    | exact aE
    | exact aE.symm
    | grind [aD,aR,aJ,gL]

def Kd:AFn:=⟨42,(.seq (.reg [o1 1 (.box 42 0),o1 2 (.mv (.const (.bool false)))]) (.seq (.reg [o1 5 (.ld 11 true 1),o1 6 (.build [(.int .i64 0),(.int .i64 0),(.int .i64 0),(.int .i64 0),(.int .i64 0),(.int .i64 0),(.int .i64 0),(.int .i64 0),(.bool false),(.int .i64 0),(.int .i64 0)] [(0,11,5)]),o1 3 (.alloc 135 [(.int .i64 0),(.int .i64 0),(.int .i64 0),(.int .i64 0),(.int .i64 0),(.int .i64 0),(.int .i64 0),(.int .i64 0),(.bool false),(.int .i64 0),(.int .i64 0)]),o2 (.st 11 3 6)]) (.seq (.regT [o1 7 (.faddr 0 3),o1 8 (.faddr 0 7),o1 9 (.ld 1 false 8),o1 10 (.bin .neq 9 (ci 0)),o1 11 (.mv 10),o4 12 (.ld 11 true 1) 11,o4 13 (.ld 11 true 3) 11,o4 14 (.call 91 [13]) 11,o4 15 (.eqs false [(.int .i64),(.int .i64),(.int .i64),(.int .i64),(.int .i64),(.int .i64),(.int .i64),(.int .i64),.bool,(.int .i64),(.int .i64)] 12 14) 11,o1 16 (.pick 11 (.const (.bool true)) 15),o1 4 (.mv 16)] [(5,6),(5,7)]) (.seq (.reg [o1 17 (.faddr 0 3),o1 18 (.faddr 0 17),o1 19 (.ld 1 false 18),o1 20 (.call 92 [19,(ci 0),(ci 2)]),o1 21 (.mv 20),o3 22 (.faddr 0 3) 21,o3 23 (.faddr 9 22) 21,o3 24 (.ld 1 false 23) 21,o3 25 (.call 92 [24,(ci 0),(ci 7)]) 21,o1 26 (.pick 21 25 (.const (.bool false))),o1 27 (.mv 26),o3 28 (.ld 11 true 3) 27,o3 29 (.call 93 [28]) 27,o1 30 (.pick 27 29 (.const (.bool false))),o1 31 (.mv 30),o3 32 (.ld 11 true 3) 31,o3 33 (.call 94 [32]) 31,o1 34 (.pick 31 33 (.const (.bool false))),o1 35 (.mv 34),o3 36 (.ld 11 true 3) 35,o3 37 (.call 95 [36]) 35,o1 38 (.pick 35 37 (.const (.bool false))),o1 39 (.mv 38),o3 40 (.mv 4) 39,o1 41 (.pick 39 40 (.const (.bool false))),o1 2 (.mv 41)]) .ret)))),[(2,none)]⟩
theorem Vd:xf Zi 51=some Kd:=by kernel_rfl
theorem vH {fB bY:Int} {dB cB:Int} {fA cZ:Int} {cA bN:Int} {bZ:Bool} {dA cY:Int}  : bO Zi 51 [.agg [.int .i64 fB,.int .i64 bY,.int .i64 dB,.int .i64 cB,.int .i64 fA,.int .i64 cZ,.int .i64 cA,.int .i64 bN,.bool bZ,.int .i64 dA,.int .i64 cY]] ((.bool (bK (DR fB bY dB cB fA cZ cA bN bZ dA cY))),[],[]):=by
  refine aG cD Vd (by simp [Kd]) fun hw _=>?_
  simp only [eP,AV.wf,aD] at hw
  repeat' with_reducible first|refine aO (fun h=>?_) (fun h=>?_)|refine aT (fun h=>?_) (fun h=>?_)|refine aC (fun h=>?_) (fun h=>?_)|refine aH (fun h=>?_) (fun h=>?_)|refine aN ?_ ?_ ?_ ?_|refine aP ?_ ?_|refine aU ?_ ?_|refine bE ?_ ?_|refine P0 (vN) ?_ ?_ ?_|refine AY (vN) ?_ ?_ ?_|refine BD (vN) ?_ ?_|refine P0 (jR) ?_ ?_ ?_|refine AY (jR) ?_ ?_ ?_|refine BD (jR) ?_ ?_|refine P0 (vO) ?_ ?_ ?_|refine AY (vO) ?_ ?_ ?_|refine BD (vO) ?_ ?_|refine P0 (vP) ?_ ?_ ?_|refine AY (vP) ?_ ?_ ?_|refine BD (vP) ?_ ?_|refine P0 (vQ) ?_ ?_ ?_|refine AY (vQ) ?_ ?_ ?_|refine BD (vQ) ?_ ?_|simp -implicitDefEqProofs only [Kd,qA,aZ,bJ,aF,aL,qU,Zj,Zs,Zt,Zo,Zk,Zu,reduceIte,reduceCtorEq,bW,qJ, *]
  all_goals first
    | (simp; done)
    | exact aE
    | exact aE.symm
    | grind [aD,aR,aJ,bK,qJ,Thread.mk.injEq]

def yC:AFn:=⟨9,(.seq (.reg [o1 1 (.box 42 0),o1 2 (.mv (ci 0))]) (.seq (.seq (.reg [o1 3 (.faddr 0 1),o1 4 (.ld 1 false 3)]) (.block 0 (.seq (.reg [o1 6 (.bin .eql 4 (ci 0)),o1 5 (.mv 6)]) (.cond 5 (.seq (.reg [o1 2 (.mv (ci 121))]) .ret) (.seq (.reg [o1 8 (.bin .eql 4 (ci 2)),o1 7 (.mv 8)]) (.cond 7 (.seq (.reg [o1 2 (.mv (ci 122))]) .ret) .skip)))))) (.seq (.reg [o1 2 (.mv (ci 0))]) .ret))),[(2,none)]⟩
theorem Jh:xf Zi 124=some yC:=by kernel_rfl
theorem Bp {fB bY:Int} {dB cB:Int} {fA cZ:Int} {cA bN:Int} {bZ:Bool} {dA cY:Int}  : bO Zi 124 [.agg [.int .i64 fB,.int .i64 bY,.int .i64 dB,.int .i64 cB,.int .i64 fA,.int .i64 cZ,.int .i64 cA,.int .i64 bN,.bool bZ,.int .i64 dA,.int .i64 cY]] ((.int .i64 (qL (DR fB bY dB cB fA cZ cA bN bZ dA cY))),[],[]):=by
  refine aG cD Jh (by simp [yC]) fun hw _=>?_
  simp only [eP,AV.wf,aD] at hw
  repeat' with_reducible first|refine aO (fun h=>?_) (fun h=>?_)|refine aT (fun h=>?_) (fun h=>?_)|refine aC (fun h=>?_) (fun h=>?_)|refine aH (fun h=>?_) (fun h=>?_)|refine aN ?_ ?_ ?_ ?_|refine aP ?_ ?_|refine aU ?_ ?_|refine bE ?_ ?_|simp -implicitDefEqProofs only [yC,qA,aZ,bJ,aF,aL,qU,Zj,Zs,Zt,Zo,Zk,Zu,reduceIte,reduceCtorEq, *]
  all_goals first
    | (simp; done)
    | exact aE
    | exact aE.symm
    | grind [aD,aR,aJ,qL]

def Um:AFn:=⟨38,(.seq (.reg [o1 4 (.box 42 0),o1 8 (.alloc 42 [(.int .i64 0),(.int .i64 0),(.int .i64 0),(.int .i64 0),(.int .i64 0),(.int .i64 0),(.int .i64 0),(.int .i64 0),(.bool false),(.int .i64 0),(.int .i64 0)]),o1 9 (.mv (ci 0))]) (.seq (.reg [o1 11 (.mv 1),o1 12 (.call 104 [11]),o1 10 (.mv 12)]) (.seq (.block 0 (.seq (.reg [o1 14 (.faddr 0 4),o1 15 (.ld 1 false 14),o1 16 (.bin .neq 15 (ci 0)),o1 13 (.mv 16)]) (.cond 13 (.seq (.reg [o1 17 (.ld 11 true 4),o2 (.st 11 8 17),o1 9 (.mv (ci 120))]) .ret) (.seq (.reg [o1 19 (.mv 1),o1 20 (.call 65 [19]),o1 21 (.not 20),o1 18 (.mv 21)]) (.cond 18 (.seq (.reg [o1 22 (.ld 11 true 4),o2 (.st 11 8 22),o1 9 (.mv (ci 190))]) .ret) (.seq (.reg [o1 24 (.mv 10),o1 25 (.mv 24),o3 26 (.mv 3) 25,o3 27 (.call 92 [26,(ci 0),(ci 1099511627776)]) 25,o3 28 (.not 27) 25,o1 29 (.pick 25 28 (.const (.bool false))),o1 23 (.mv 29)]) (.cond 23 (.seq (.reg [o1 30 (.ld 11 true 4),o2 (.st 11 8 30),o1 9 (.mv (ci 50))]) .ret) (.seq (.reg [o1 32 (.mv 10),o1 33 (.not 32),o1 31 (.mv 33)]) (.cond 31 (.reg [o1 3 (.mv (ci 0))]) .skip))))))))) (.seq (.reg [o1 34 (.mv 1),o1 35 (.mv 2),o1 36 (.mv 3),o1 37 (.build [(.int .i64 0),(.int .i64 0),(.int .i64 0),(.int .i64 0),(.int .i64 0),(.int .i64 0),(.int .i64 0),(.int .i64 0),(.bool false),(.int .i64 0),(.int .i64 0)] [(0,1,(ci 1)),(1,1,34),(2,1,35),(3,1,36)]),o2 (.st 11 8 37),o1 9 (.mv (ci 0))]) .ret)))),[(8,some (11,true)),(9,none)]⟩
theorem Za:xf Zi 82=some Um:=by kernel_rfl
def Fo:AFn:=⟨18,(.seq (.reg [o1 2 (.box 42 0),o1 4 (.alloc 42 [(.int .i64 0),(.int .i64 0),(.int .i64 0),(.int .i64 0),(.int .i64 0),(.int .i64 0),(.int .i64 0),(.int .i64 0),(.bool false),(.int .i64 0),(.int .i64 0)]),o1 5 (.mv (ci 0))]) (.seq (.seq (.reg [o1 7 (.ld 11 true 2),o1 8 (.call 124 [7]),o1 6 (.mv 8)]) (.seq (.reg [o1 9 (.mv 6),o1 10 (.bin .neq 9 (ci 0))]) (.cond 10 (.seq (.reg [o1 11 (.ld 11 true 2),o1 12 (.mv 6),o2 (.st 11 4 11),o1 5 (.mv 12)]) .ret) .skip))) (.seq (.reg [o1 13 (.mv 1),o1 14 (.faddr 0 2),o2 (.st 1 14 (ci 2)),o1 15 (.faddr 4 2),o2 (.st 1 15 13),o1 16 (.faddr 7 2),o2 (.st 1 16 (ci 0))]) (.seq (.reg [o1 17 (.ld 11 true 2),o2 (.st 11 4 17),o1 5 (.mv (ci 0))]) .ret)))),[(4,some (11,true)),(5,none)]⟩
theorem Rw:xf Zi 257=some Fo:=by kernel_rfl
def Ua:AFn:=⟨8,(.seq (.reg [o1 1 (.box 42 0),o1 2 (.alloc 42 [(.int .i64 0),(.int .i64 0),(.int .i64 0),(.int .i64 0),(.int .i64 0),(.int .i64 0),(.int .i64 0),(.int .i64 0),(.bool false),(.int .i64 0),(.int .i64 0)])]) (.seq (.seq (.reg [o1 3 (.faddr 0 1),o1 4 (.ld 1 false 3),o1 5 (.bin .eql 4 (ci 2))]) (.cond 5 (.reg [o1 6 (.faddr 0 1),o2 (.st 1 6 (ci 1))]) .skip)) (.seq (.reg [o1 7 (.ld 11 true 1),o2 (.st 11 2 7)]) .ret))),[(2,some (11,true))]⟩
theorem Yo:xf Zi 45=some Ua:=by kernel_rfl
def Fa:AFn:=⟨14,(.seq (.reg [o1 1 (.box 42 0),o1 2 (.alloc 42 [(.int .i64 0),(.int .i64 0),(.int .i64 0),(.int .i64 0),(.int .i64 0),(.int .i64 0),(.int .i64 0),(.int .i64 0),(.bool false),(.int .i64 0),(.int .i64 0)]),o1 3 (.mv (ci 0))]) (.seq (.seq (.reg [o1 5 (.ld 11 true 1),o1 6 (.call 124 [5]),o1 4 (.mv 6)]) (.seq (.reg [o1 7 (.mv 4),o1 8 (.bin .neq 7 (ci 0))]) (.cond 8 (.seq (.reg [o1 9 (.ld 11 true 1),o1 10 (.mv 4),o2 (.st 11 2 9),o1 3 (.mv 10)]) .ret) .skip))) (.seq (.reg [o1 11 (.ld 11 true 1),o1 12 (.build [(.int .i64 0),(.int .i64 0),(.int .i64 0),(.int .i64 0),(.int .i64 0),(.int .i64 0),(.int .i64 0),(.int .i64 0),(.bool false),(.int .i64 0),(.int .i64 0)] [(0,11,11)]),o1 13 (.call 91 [12]),o2 (.st 11 2 13),o1 3 (.mv (ci 0))]) .ret))),[(2,some (11,true)),(3,none)]⟩
theorem Qu:xf Zi 243=some Fa:=by kernel_rfl
end Go.Sak
