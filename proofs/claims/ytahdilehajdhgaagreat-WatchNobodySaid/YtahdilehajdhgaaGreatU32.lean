/- Part U32 of the proofs about the program: K32. Conditions: none. -/
import Derived.Test.YtahdilehajdhgaaGreatU31
import Derived.Test.YtahdilehajdhgaaGreatU21
open Nat renaming reduceAdd→Zs,reduceEqDiff→Zk,reduceLeDiff→Zo,reduceMul→Zu,reduceSub→Zt
namespace Go.Sak
open Go Go.RowKit Go.Proofs
set_option linter.unusedVariables false
set_option linter.unusedSimpArgs false
set_option maxRecDepth 10000
set_option maxHeartbeats 8000000
def Dg (s:State):Bool:=decide (s.slots.length≤100) && decide (s.threads.length≤100) && decide (s.sends.length≤100) && decide (s.recvs.length≤100) && decide (s.full.ln.length≤100) && decide (s.empty.ln.length≤100) && decide (s.log.length≤200)
def xD (pc:Int):Int:=if pc=4 then 2 else if pc=6 then 1 else 0
def yJ:AFn:=⟨8,(.seq (.reg [o1 2 (.mv (ci 0))]) (.seq (.seq (.reg [o1 3 (.mv 0)]) (.block 0 (.seq (.reg [o1 5 (.bin .eql 3 (ci 4)),o1 4 (.mv 5)]) (.cond 4 (.seq (.reg [o1 2 (.mv (ci 2))]) .ret) (.seq (.reg [o1 7 (.bin .eql 3 (ci 6)),o1 6 (.mv 7)]) (.cond 6 (.seq (.reg [o1 2 (.mv (ci 1))]) .ret) .skip)))))) (.seq (.reg [o1 2 (.mv (ci 0))]) .ret))),[(2,none)]⟩
theorem Jq:xf Tryz.prog 183=some yJ:=by kernel_rfl
theorem rG {pc:Int}  : bO Tryz.prog 183 [.int .i64 pc] ((.int .i64 (xD pc)),[],[]):=by
  refine aG cD Jq (by simp [yJ]) fun hw _=>?_
  simp only [eP,AV.wf,aD] at hw
  repeat' with_reducible first|refine aO (fun h=>?_) (fun h=>?_)|refine aT (fun h=>?_) (fun h=>?_)|refine aC (fun h=>?_) (fun h=>?_)|refine aH (fun h=>?_) (fun h=>?_)|refine aN ?_ ?_ ?_ ?_|refine aP ?_ ?_|refine aU ?_ ?_|refine bE ?_ ?_|simp -implicitDefEqProofs only [yJ,qA,aZ,bJ,aF,aL,qU,List.reduceReplicate,Zs,Zt,Zo,Zk,Zu,reduceIte,reduceCtorEq, *]
  all_goals first
    | (simp; done)
    | exact aE
    | exact aE.symm
    | grind [aD,aR,aJ,xD]

def Ln:AFn:=⟨45,(.seq (.reg [o1 1 (.box 33 0),o1 2 (.mv (.const (.bool false)))]) (.seq (.reg [o1 3 (.faddr 10 1),o1 4 (.ld 1 false 3),o1 5 (.len 4),o1 6 (.bin .leq 5 (ci 100)),o1 7 (.mv 6),o3 8 (.faddr 18 1) 7,o3 9 (.ld 1 false 8) 7,o3 10 (.len 9) 7,o3 11 (.bin .leq 10 (ci 100)) 7,o1 12 (.pick 7 11 (.const (.bool false))),o1 13 (.mv 12),o3 14 (.faddr 11 1) 13,o3 15 (.ld 1 false 14) 13,o3 16 (.len 15) 13,o3 17 (.bin .leq 16 (ci 100)) 13,o1 18 (.pick 13 17 (.const (.bool false))),o1 19 (.mv 18),o3 20 (.faddr 12 1) 19,o3 21 (.ld 1 false 20) 19,o3 22 (.len 21) 19,o3 23 (.bin .leq 22 (ci 100)) 19,o1 24 (.pick 19 23 (.const (.bool false))),o1 25 (.mv 24),o3 26 (.faddr 13 1) 25,o3 27 (.faddr 1 26) 25,o3 28 (.ld 1 false 27) 25,o3 29 (.len 28) 25,o3 30 (.bin .leq 29 (ci 100)) 25,o1 31 (.pick 25 30 (.const (.bool false))),o1 32 (.mv 31),o3 33 (.faddr 15 1) 32,o3 34 (.faddr 1 33) 32,o3 35 (.ld 1 false 34) 32,o3 36 (.len 35) 32,o3 37 (.bin .leq 36 (ci 100)) 32,o1 38 (.pick 32 37 (.const (.bool false))),o1 39 (.mv 38),o3 40 (.faddr 19 1) 39,o3 41 (.ld 1 false 40) 39,o3 42 (.len 41) 39,o3 43 (.bin .leq 42 (ci 200)) 39,o1 44 (.pick 39 43 (.const (.bool false))),o1 2 (.mv 44)]) .ret)),[(2,none)]⟩
theorem Pi:xf Tryz.prog 15=some Ln:=by kernel_rfl
theorem Ho {xG xH:Int} {qB xI:Int} {mM qD:Int} {hG:Bool} {Iq Is Ir:Int} {iR:List Slot} {iQ iP:List Int} {xF:Int} {uM:List Int} {xE:Int} {uL:List Int} {pZ:Int} {nP:List Thread} {nO:List Entry}:bO Tryz.prog 15 [.agg [.int .i64 xG,.int .i64 xH,.int .i64 qB,.int .i64 xI,.int .i64 mM,.int .i64 qD,.bool hG,.int .i64 Iq,.int .i64 Is,.int .i64 Ir,.slv 2 (iR.map dQ),.slv 1 (iQ.map aW),.slv 1 (iP.map aW),.int .i64 xF,.slv 1 (uM.map aW),.int .i64 xE,.slv 1 (uL.map aW),.int .i64 pZ,.slv 11 (nP.map bW),.slv 5 (nO.map gW)]] (.bool (Dg (State.mk (Config.mk xG xH qB xI mM qD hG) (Word.mk Iq Is Ir) iR iQ iP (Event.mk xF uM) (Event.mk xE uL) pZ nP nO)),[],[]):=by
  refine aG cD Pi (by simp [Ln]) fun hw _=>?_
  simp only [eP,AV.wf,aD,List.length_map] at hw
  repeat' with_reducible first|refine aO (fun h=>?_) (fun h=>?_)|refine aT (fun h=>?_) (fun h=>?_)|refine aC (fun h=>?_) (fun h=>?_)|refine aH (fun h=>?_) (fun h=>?_)|refine aN ?_ ?_ ?_ ?_|refine aP ?_ ?_|refine aU ?_ ?_|refine bE ?_ ?_|simp -implicitDefEqProofs only [Ln,qA,cK,bC,cM,aF,aL,qU,List.reduceReplicate,Zs,Zt,Zo,Zk,Zu,reduceIte,reduceCtorEq,qI,Nat.reduceLT,Nat.reduceBEq,aX, *]
  all_goals first
    | omega
    | (simp; done)
    | grind [Dg]
    | skip

def Vy:AFn:=⟨81,(.seq (.reg [o1 2 (.box 33 0),o1 3 (.box 33 1),o1 4 (.mv (.const (.bool false)))]) (.seq (.reg [o1 9 (.faddr 0 2),o1 10 (.ld 7 true 9),o1 11 (.faddr 0 3),o1 12 (.ld 7 true 11),o1 13 (.eqs false [(.int .i64),(.int .i64),(.int .i64),(.int .i64),(.int .i64),(.int .i64),.bool] 10 12),o1 14 (.mv 13),o3 15 (.faddr 7 2) 14,o3 16 (.ld 3 true 15) 14,o3 17 (.faddr 7 3) 14,o3 18 (.ld 3 true 17) 14,o3 19 (.eqs false [(.int .i64),(.int .i64),(.int .i64)] 16 18) 14,o1 20 (.pick 14 19 (.const (.bool false))),o1 21 (.mv 20),o3 22 (.faddr 17 2) 21,o3 23 (.ld 1 false 22) 21,o3 24 (.faddr 17 3) 21,o3 25 (.ld 1 false 24) 21,o3 26 (.bin .eql 23 25) 21,o1 27 (.pick 21 26 (.const (.bool false))),o1 5 (.mv 27)]) (.seq (.reg [o1 28 (.faddr 10 2),o1 29 (.ld 1 false 28),o1 30 (.faddr 10 3),o1 31 (.ld 1 false 30),o1 32 (.call 46 [29,31]),o1 33 (.mv 32),o3 34 (.faddr 11 2) 33,o3 35 (.ld 1 false 34) 33,o3 36 (.faddr 11 3) 33,o3 37 (.ld 1 false 36) 33,o3 38 (.call 19 [35,37]) 33,o1 39 (.pick 33 38 (.const (.bool false))),o1 40 (.mv 39),o3 41 (.faddr 12 2) 40,o3 42 (.ld 1 false 41) 40,o3 43 (.faddr 12 3) 40,o3 44 (.ld 1 false 43) 40,o3 45 (.call 19 [42,44]) 40,o1 46 (.pick 40 45 (.const (.bool false))),o1 6 (.mv 46)]) (.seq (.reg [o1 47 (.faddr 13 2),o1 48 (.ld 2 true 47),o1 49 (.faddr 13 3),o1 50 (.ld 2 true 49),o1 51 (.call 47 [48,50]),o1 52 (.mv 51),o3 53 (.faddr 15 2) 52,o3 54 (.ld 2 true 53) 52,o3 55 (.faddr 15 3) 52,o3 56 (.ld 2 true 55) 52,o3 57 (.call 47 [54,56]) 52,o1 58 (.pick 52 57 (.const (.bool false))),o1 7 (.mv 58)]) (.seq (.reg [o1 59 (.faddr 18 2),o1 60 (.ld 1 false 59),o1 61 (.faddr 18 3),o1 62 (.ld 1 false 61),o1 63 (.call 48 [60,62]),o1 64 (.mv 63),o3 65 (.faddr 19 2) 64,o3 66 (.ld 1 false 65) 64,o3 67 (.faddr 19 3) 64,o3 68 (.ld 1 false 67) 64,o3 69 (.call 31 [66,68]) 64,o1 70 (.pick 64 69 (.const (.bool false))),o1 8 (.mv 70)]) (.seq (.reg [o1 71 (.mv 5),o1 72 (.mv 71),o3 73 (.mv 6) 72,o1 74 (.pick 72 73 (.const (.bool false))),o1 75 (.mv 74),o3 76 (.mv 7) 75,o1 77 (.pick 75 76 (.const (.bool false))),o1 78 (.mv 77),o3 79 (.mv 8) 78,o1 80 (.pick 78 79 (.const (.bool false))),o1 4 (.mv 80)]) .ret)))))),[(4,none)]⟩
theorem Ux:xf Tryz.prog 17=some Vy:=by kernel_rfl
end Go.Sak
