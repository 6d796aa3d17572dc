/- Part T32 of the proofs about the program: K32. Conditions: none. -/
import Derived.Test.YtahdilehajdhgaaGreatT31
import Derived.Test.YtahdilehajdhgaaGreatT21
open Go.Sak.Event renaming mk→D7
open List renaming length_map→G7,reduceReplicate→D1
open Nat renaming reduceAdd→D4,reduceBEq→E1,reduceEqDiff→D0,reduceLT→E2,reduceLeDiff→D3,reduceMul→D6,reduceSub→D5
open Go.Proofs.Tryz renaming prog→D8
namespace Go.Sak
open Go Go.RowKit Go.Proofs
set_option linter.unusedVariables false
set_option linter.unusedSimpArgs false
set_option maxRecDepth 10000
set_option maxHeartbeats 8000000
def HX (s:State):Bool:=decide (s.slots.length≤100) && decide (s.threads.length≤100) && decide (s.sends.length≤100) && decide (s.recvs.length≤100) && decide (s.full.ln.length≤100) && decide (s.empty.ln.length≤100) && decide (s.log.length≤200)
def WB:AFn:=⟨19,(.seq (.reg [o1 2 (.box 29 0),o1 3 (.box 29 1),o1 4 (.mv (.const (.bool false)))]) (.seq (.reg [o1 6 (.faddr 1 2),o1 7 (.ld 1 false 6),o1 8 (.faddr 1 3),o1 9 (.ld 1 false 8),o1 10 (.call 19 [7,9]),o1 5 (.mv 10)]) (.seq (.reg [o1 11 (.mv 5),o1 12 (.mv 11),o3 13 (.faddr 0 2) 12,o3 14 (.ld 1 false 13) 12,o3 15 (.faddr 0 3) 12,o3 16 (.ld 1 false 15) 12,o3 17 (.bin .eql 14 16) 12,o1 18 (.pick 12 17 (.const (.bool false))),o1 4 (.mv 18)]) .ret))),[(4,none)]⟩
theorem C4:xf D8 47=some WB:=by kernel_rfl
theorem Vt {NO:Int} {JK:List Int} {NS:Int} {NU:List Int} (h1:JK.length≤100000000):cX D8 47 [.agg [.int .i64 NO,.slv 1 (JK.map aS)],.agg [.int .i64 NS,.slv 1 (NU.map aS)]] ((.bool (decide ((D7 NO JK)=(D7 NS NU)))),[],[]):=by
  refine aI bP C4 (by simp [WB]) fun hw _=>?_
  simp only [iR,AV.wf,aY] at hw
  repeat' with_reducible first|refine aQ (fun h=>?_) (fun h=>?_)|refine bB (fun h=>?_) (fun h=>?_)|refine aF (fun h=>?_) (fun h=>?_)|refine aH (fun h=>?_) (fun h=>?_)|refine bJ ?_ ?_ ?_ ?_|refine aR ?_ ?_|refine bC ?_ ?_|refine bM ?_ ?_|refine P0 (mY ?_) ?_ ?_ ?_|refine ACV.of (mY ?_) ?_ ?_ ?_|refine ACK.of (mY ?_) ?_ ?_|simp -implicitDefEqProofs only [WB,qA,cS,cW,aJ,aP,qU,D1,D4,D5,D3,D0,D6,reduceIte,reduceCtorEq, *]
  all_goals first
    | (simp; done)
    | exact bE
    | exact bE.symm
    | grind [aY,bL,bI]

def VZ:AFn:=⟨45,(.seq (.reg [o1 1 (.box 33 0),o1 2 (.mv (.const (.bool false)))]) (.seq (.reg [o1 3 (.faddr 10 1),o1 4 (.ld 1 false 3),o1 5 (.len 4),o1 6 (.bin .leq 5 (ci 100)),o1 7 (.mv 6),o3 8 (.faddr 18 1) 7,o3 9 (.ld 1 false 8) 7,o3 10 (.len 9) 7,o3 11 (.bin .leq 10 (ci 100)) 7,o1 12 (.pick 7 11 (.const (.bool false))),o1 13 (.mv 12),o3 14 (.faddr 11 1) 13,o3 15 (.ld 1 false 14) 13,o3 16 (.len 15) 13,o3 17 (.bin .leq 16 (ci 100)) 13,o1 18 (.pick 13 17 (.const (.bool false))),o1 19 (.mv 18),o3 20 (.faddr 12 1) 19,o3 21 (.ld 1 false 20) 19,o3 22 (.len 21) 19,o3 23 (.bin .leq 22 (ci 100)) 19,o1 24 (.pick 19 23 (.const (.bool false))),o1 25 (.mv 24),o3 26 (.faddr 13 1) 25,o3 27 (.faddr 1 26) 25,o3 28 (.ld 1 false 27) 25,o3 29 (.len 28) 25,o3 30 (.bin .leq 29 (ci 100)) 25,o1 31 (.pick 25 30 (.const (.bool false))),o1 32 (.mv 31),o3 33 (.faddr 15 1) 32,o3 34 (.faddr 1 33) 32,o3 35 (.ld 1 false 34) 32,o3 36 (.len 35) 32,o3 37 (.bin .leq 36 (ci 100)) 32,o1 38 (.pick 32 37 (.const (.bool false))),o1 39 (.mv 38),o3 40 (.faddr 19 1) 39,o3 41 (.ld 1 false 40) 39,o3 42 (.len 41) 39,o3 43 (.bin .leq 42 (ci 200)) 39,o1 44 (.pick 39 43 (.const (.bool false))),o1 2 (.mv 44)]) .ret)),[(2,none)]⟩
theorem Ki:xf D8 15=some VZ:=by kernel_rfl
theorem NZ {aW aV:Int} {aN aX:Int} {aG aO:Int} {aA:Bool} {bT bV bU:Int} {aB:List Slot} {aD aC:List Int} {aZ:Int} {aT:List Int} {bA:Int} {aU:List Int} {aL:Int} {aE:List Thread} {aK:List Entry}:cX D8 15 [.agg [.int .i64 aW,.int .i64 aV,.int .i64 aN,.int .i64 aX,.int .i64 aG,.int .i64 aO,.bool aA,.int .i64 bT,.int .i64 bV,.int .i64 bU,.slv 2 (aB.map cU),.slv 1 (aD.map aS),.slv 1 (aC.map aS),.int .i64 aZ,.slv 1 (aT.map aS),.int .i64 bA,.slv 1 (aU.map aS),.int .i64 aL,.slv 11 (aE.map bH),.slv 5 (aK.map cO)]] (.bool (HX (State.mk (Config.mk aW aV aN aX aG aO aA) (Word.mk bT bV bU) aB aD aC (D7 aZ aT) (D7 bA aU) aL aE aK)),[],[]):=by
  refine aI bP Ki (by simp [VZ]) fun hw _=>?_
  simp only [iR,AV.wf,aY,G7] at hw
  repeat' with_reducible first|refine aQ (fun h=>?_) (fun h=>?_)|refine bB (fun h=>?_) (fun h=>?_)|refine aF (fun h=>?_) (fun h=>?_)|refine aH (fun h=>?_) (fun h=>?_)|refine bJ ?_ ?_ ?_ ?_|refine aR ?_ ?_|refine bC ?_ ?_|refine bM ?_ ?_|simp -implicitDefEqProofs only [VZ,qA,bN,bD,bO,aJ,aP,qU,D1,D4,D5,D3,D0,D6,reduceIte,reduceCtorEq,qI,E2,E1,bY, *]
  all_goals first
    | omega
    | (simp; done)
    | grind [HX]
    | skip

def WA:AFn:=⟨81,(.seq (.reg [o1 2 (.box 33 0),o1 3 (.box 33 1),o1 4 (.mv (.const (.bool false)))]) (.seq (.reg [o1 9 (.faddr 0 2),o1 10 (.ld 7 true 9),o1 11 (.faddr 0 3),o1 12 (.ld 7 true 11),o1 13 (.eqs false [(.int .i64),(.int .i64),(.int .i64),(.int .i64),(.int .i64),(.int .i64),.bool] 10 12),o1 14 (.mv 13),o3 15 (.faddr 7 2) 14,o3 16 (.ld 3 true 15) 14,o3 17 (.faddr 7 3) 14,o3 18 (.ld 3 true 17) 14,o3 19 (.eqs false [(.int .i64),(.int .i64),(.int .i64)] 16 18) 14,o1 20 (.pick 14 19 (.const (.bool false))),o1 21 (.mv 20),o3 22 (.faddr 17 2) 21,o3 23 (.ld 1 false 22) 21,o3 24 (.faddr 17 3) 21,o3 25 (.ld 1 false 24) 21,o3 26 (.bin .eql 23 25) 21,o1 27 (.pick 21 26 (.const (.bool false))),o1 5 (.mv 27)]) (.seq (.reg [o1 28 (.faddr 10 2),o1 29 (.ld 1 false 28),o1 30 (.faddr 10 3),o1 31 (.ld 1 false 30),o1 32 (.call 46 [29,31]),o1 33 (.mv 32),o3 34 (.faddr 11 2) 33,o3 35 (.ld 1 false 34) 33,o3 36 (.faddr 11 3) 33,o3 37 (.ld 1 false 36) 33,o3 38 (.call 19 [35,37]) 33,o1 39 (.pick 33 38 (.const (.bool false))),o1 40 (.mv 39),o3 41 (.faddr 12 2) 40,o3 42 (.ld 1 false 41) 40,o3 43 (.faddr 12 3) 40,o3 44 (.ld 1 false 43) 40,o3 45 (.call 19 [42,44]) 40,o1 46 (.pick 40 45 (.const (.bool false))),o1 6 (.mv 46)]) (.seq (.reg [o1 47 (.faddr 13 2),o1 48 (.ld 2 true 47),o1 49 (.faddr 13 3),o1 50 (.ld 2 true 49),o1 51 (.call 47 [48,50]),o1 52 (.mv 51),o3 53 (.faddr 15 2) 52,o3 54 (.ld 2 true 53) 52,o3 55 (.faddr 15 3) 52,o3 56 (.ld 2 true 55) 52,o3 57 (.call 47 [54,56]) 52,o1 58 (.pick 52 57 (.const (.bool false))),o1 7 (.mv 58)]) (.seq (.reg [o1 59 (.faddr 18 2),o1 60 (.ld 1 false 59),o1 61 (.faddr 18 3),o1 62 (.ld 1 false 61),o1 63 (.call 48 [60,62]),o1 64 (.mv 63),o3 65 (.faddr 19 2) 64,o3 66 (.ld 1 false 65) 64,o3 67 (.faddr 19 3) 64,o3 68 (.ld 1 false 67) 64,o3 69 (.call 31 [66,68]) 64,o1 70 (.pick 64 69 (.const (.bool false))),o1 8 (.mv 70)]) (.seq (.reg [o1 71 (.mv 5),o1 72 (.mv 71),o3 73 (.mv 6) 72,o1 74 (.pick 72 73 (.const (.bool false))),o1 75 (.mv 74),o3 76 (.mv 7) 75,o1 77 (.pick 75 76 (.const (.bool false))),o1 78 (.mv 77),o3 79 (.mv 8) 78,o1 80 (.pick 78 79 (.const (.bool false))),o1 4 (.mv 80)]) .ret)))))),[(4,none)]⟩
theorem Kj:xf D8 17=some WA:=by kernel_rfl
theorem OA {aW aV:Int} {aN aX:Int} {aG aO:Int} {aA:Bool} {bT bV bU:Int} {aB:List Slot} {aD aC:List Int} {aZ:Int} {aT:List Int} {bA:Int} {aU:List Int} {aL:Int} {aE:List Thread} {aK:List Entry} {QS QT:Int} {IR QU:Int} {Zq IT:Int} {Jx:Bool} {YB YD YC:Int} {Pb:List Slot} {Pa Oz:List Int} {QQ:Int} {QR:List Int} {QO:Int} {QP:List Int} {IQ:Int} {IS:List Thread} {IP:List Entry} (h1:aB.length≤100000000) (h2:aD.length≤100000000) (h3:aC.length≤100000000) (h4:aT.length≤100000000) (h5:aU.length≤100000000) (h6:aE.length≤100000000) (h7:aK.length≤100000000):cX D8 17 [.agg [.int .i64 aW,.int .i64 aV,.int .i64 aN,.int .i64 aX,.int .i64 aG,.int .i64 aO,.bool aA,.int .i64 bT,.int .i64 bV,.int .i64 bU,.slv 2 (aB.map cU),.slv 1 (aD.map aS),.slv 1 (aC.map aS),.int .i64 aZ,.slv 1 (aT.map aS),.int .i64 bA,.slv 1 (aU.map aS),.int .i64 aL,.slv 11 (aE.map bH),.slv 5 (aK.map cO)],.agg [.int .i64 QS,.int .i64 QT,.int .i64 IR,.int .i64 QU,.int .i64 Zq,.int .i64 IT,.bool Jx,.int .i64 YB,.int .i64 YD,.int .i64 YC,.slv 2 (Pb.map cU),.slv 1 (Pa.map aS),.slv 1 (Oz.map aS),.int .i64 QQ,.slv 1 (QR.map aS),.int .i64 QO,.slv 1 (QP.map aS),.int .i64 IQ,.slv 11 (IS.map bH),.slv 5 (IP.map cO)]] (.bool (decide ((State.mk (Config.mk aW aV aN aX aG aO aA) (Word.mk bT bV bU) aB aD aC (D7 aZ aT) (D7 bA aU) aL aE aK)=(State.mk (Config.mk QS QT IR QU Zq IT Jx) (Word.mk YB YD YC) Pb Pa Oz (D7 QQ QR) (D7 QO QP) IQ IS IP))),[],[]):=by
  refine aI bP Kj (by simp [WA]) fun hw _=>?_
  simp only [iR,AV.wf,aY,G7] at hw
  repeat' with_reducible first|refine aQ (fun h=>?_) (fun h=>?_)|refine bB (fun h=>?_) (fun h=>?_)|refine aF (fun h=>?_) (fun h=>?_)|refine aH (fun h=>?_) (fun h=>?_)|refine bJ ?_ ?_ ?_ ?_|refine aR ?_ ?_|refine bC ?_ ?_|refine bM ?_ ?_|refine P0 (Vt ?_) ?_ ?_ ?_|refine ACV.of (Vt ?_) ?_ ?_ ?_|refine ACK.of (Vt ?_) ?_ ?_|refine P0 (Vs ?_) ?_ ?_ ?_|refine ACV.of (Vs ?_) ?_ ?_ ?_|refine ACK.of (Vs ?_) ?_ ?_|refine P0 (Vu ?_) ?_ ?_ ?_|refine ACV.of (Vu ?_) ?_ ?_ ?_|refine ACK.of (Vu ?_) ?_ ?_|refine P0 (pI ?_) ?_ ?_ ?_|refine ACV.of (pI ?_) ?_ ?_ ?_|refine ACK.of (pI ?_) ?_ ?_|refine P0 (mY ?_) ?_ ?_ ?_|refine ACV.of (mY ?_) ?_ ?_ ?_|refine ACK.of (mY ?_) ?_ ?_|simp -implicitDefEqProofs only [WA,qA,bN,bD,bO,aJ,aP,qU,D1,D4,D5,D3,D0,D6,reduceIte,reduceCtorEq,qI,E2,E1,bY, *]
  all_goals first
    | omega
    | (simp; done)
    | grind
    | skip

end Go.Sak
