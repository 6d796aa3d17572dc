/- Part U16 of the proofs about the program: K8, K9, K10, K11, K12, K13, K14. Conditions: none. -/
import Derived.Test.YtahdilehajdhgaaGreatU13
import Derived.Test.YtahdilehajdhgaaGreatU14
open Go.Sak.ACV renaming of→AY
open List renaming length_map→BB,reduceReplicate→Zj
open Nat renaming reduceAdd→Zs,reduceBEq→AB,reduceEqDiff→Zk,reduceLT→AE,reduceLeDiff→Zo,reduceMul→Zu,reduceSub→Zt
open Go.Proofs.Tryz renaming prog→Zi
namespace Go.Sak
open Go Go.RowKit Go.Proofs
set_option linter.unusedVariables false
set_option linter.unusedSimpArgs false
set_option maxRecDepth 10000
set_option maxHeartbeats 8000000
def Ui:AFn:=⟨32,(.seq (.reg [o1 3 (.box 23 0),o1 6 (.mv (ci 0))]) (.seq (.block 0 (.seq (.reg [o1 8 (.mv 1),o1 9 (.bin .lss 8 (ci 0)),o1 10 (.mv 9),o4 11 (.mv 1) 10,o4 12 (.faddr 1 3) 10,o4 13 (.ld 1 false 12) 10,o4 14 (.bin .geq 11 13) 10,o1 15 (.pick 10 (.const (.bool true)) 14),o1 7 (.mv 15)]) (.cond 7 (.seq (.reg [o1 6 (.mv (ci 123))]) .ret) (.seq (.reg [o1 17 (.mv 2),o1 18 (.call 65 [17]),o1 19 (.not 18),o1 16 (.mv 19)]) (.cond 16 (.seq (.reg [o1 6 (.mv (ci 190))]) .ret) (.seq (.reg [o1 21 (.faddr 6 3),o1 22 (.ld 1 false 21),o1 23 (.mv 22),o3 24 (.mv 2) 23,o3 25 (.call 75 [24]) 23,o3 26 (.bin .eql 25 (ci 2)) 23,o1 27 (.pick 23 26 (.const (.bool false))),o1 28 (.mv 27),o3 29 (.mv 1) 28,o3 30 (.bin .gtr 29 (ci 0)) 28,o1 31 (.pick 28 30 (.const (.bool false))),o1 20 (.mv 31)]) (.cond 20 (.seq (.reg [o1 6 (.mv (ci 123))]) .ret) .skip))))))) (.seq (.reg [o1 6 (.mv (ci 0))]) .ret))),[(6,none)]⟩
theorem Yw:xf Zi 78=some Ui:=by kernel_rfl
theorem Ig (k:IntKind) (x y:Int):jB .shl k x y=if y<0 then none else some (.int k (k.wrap (x * 2 ^ (min y.toNat k.bits)))):=rfl
theorem sE {c:Config} (h:bV c=0):1≤c.lg∧c.lg≤6:=by
  unfold bV at h
  split at h
  · rename_i hc; simp [bD,aS] at hc; omega
  · cases h
theorem vU {c:Config} (h:bV c=0):IntKind.wrap .i64 (1 * 2 ^ (min c.lg.toNat (IntKind.bits .i64)))=cP c:=by
  obtain ⟨h1,h2⟩:=sE h
  have hc:bD c=true:=by
    unfold bV at h
    split at h
    · assumption
    · cases h
  rw [cP,if_pos hc]
  have:c.lg=1∨c.lg=2∨c.lg=3∨c.lg=4∨c.lg=5∨c.lg=6:=by omega
  rcases this with e | e | e | e | e | e <;> rw [e] <;> decide
theorem tS {c:Config} (h:bV c=0):IntKind.wrap .i64 (2 ^ (min c.lg.toNat (IntKind.bits .i64)))=cP c:=by simpa using vU h
theorem zQ {c:Config} (h:¬ bV c=0):cP c=0:=by
  unfold bV at h
  split at h
  · exact absurd rfl h
  · rename_i hc; simp [cP,hc]
def Kb:AFn:=⟨9,(.seq (.reg [o1 1 (.box 23 0),o1 2 (.mv (ci 0))]) (.seq (.seq (.reg [o1 3 (.ld 7 true 1),o1 4 (.call 76 [3]),o1 5 (.bin .neq 4 (ci 0))]) (.cond 5 (.seq (.reg [o1 2 (.mv (ci 0))]) .ret) .skip)) (.seq (.reg [o1 6 (.faddr 0 1),o1 7 (.ld 1 false 6),o1 8 (.bin .shl (ci 1) 7),o1 2 (.mv 8)]) .ret))),[(2,none)]⟩
theorem Vb:xf Zi 49=some Kb:=by kernel_rfl
theorem vG {tP tQ:Int} {nA tR:Int} {kF nC:Int} {fQ:Bool}  : bO Zi 49 [.agg [.int .i64 tP,.int .i64 tQ,.int .i64 nA,.int .i64 tR,.int .i64 kF,.int .i64 nC,.bool fQ]] ((.int .i64 (cP (Config.mk tP tQ nA tR kF nC fQ))),[],[]):=by
  refine aG cD Vb (by simp [Kb]) fun hw _=>?_
  simp only [eP,AV.wf,aD] at hw
  repeat' with_reducible first|refine aO (fun h=>?_) (fun h=>?_)|refine aT (fun h=>?_) (fun h=>?_)|refine aC (fun h=>?_) (fun h=>?_)|refine aH (fun h=>?_) (fun h=>?_)|refine aN ?_ ?_ ?_ ?_|refine aP ?_ ?_|refine aU ?_ ?_|refine bE ?_ ?_|refine P0 (vM) ?_ ?_ ?_|refine AY (vM) ?_ ?_ ?_|refine ACK.of (vM) ?_ ?_|simp -implicitDefEqProofs only [Kb,qA,aZ,bJ,aF,aL,qU,Zj,Zs,Zt,Zo,Zk,Zu,reduceIte,reduceCtorEq,Ig, *]
  all_goals (try simp only [decide_eq_true_eq,decide_eq_false_iff_not,Bool.not_eq_true,Bool.not_eq_false] at *)
  all_goals (try (have hlg:=sE (by assumption); simp only [] at hlg))
  all_goals (try (rw [zQ (by assumption)]; done))
  all_goals (try (have hsh:=tS (by assumption); simp only [] at hsh))
  all_goals first
    | (simp; done)
    | exact aE
    | exact aE.symm
    | grind [aD,aR,aJ]

set_option maxHeartbeats 8000000
def Gp:AFn:=⟨42,(.seq (.reg [o1 8 (.mv (.const .slnil)),o1 9 (.mv (ci 0))]) (.seq (.reg [o1 11 (.mv 0),o1 12 (.len 11),o1 13 (.mkslice 107 2 [(.int .i64 0),(.int .i64 0)] 16 12 12),o1 10 (.mv 13)]) (.seq (.reg [o1 14 (.mv 10),o1 15 (.mv 0),o1 16 (.cpy 2 14 15)]) (.seq (.block 0 (.seq (.reg [o1 18 (.mv 1),o1 19 (.bin .lss 18 (ci 0)),o1 20 (.mv 19),o4 21 (.mv 0) 20,o4 22 (.call 53 [21]) 20,o4 23 (.not 22) 20,o1 24 (.pick 20 (.const (.bool true)) 23),o1 17 (.mv 24)]) (.cond 17 (.seq (.reg [o1 25 (.mv 10),o1 8 (.mv 25),o1 9 (.mv (ci 40))]) .ret) (.seq (.reg [o1 27 (.mv 0),o1 28 (.mv 1),o1 29 (.call 295 [27,28]),o1 30 (.not 29),o1 26 (.mv 30)]) (.cond 26 (.seq (.reg [o1 31 (.mv 10),o1 32 (.mv 2),o1 8 (.mv 31),o1 9 (.mv 32)]) .ret) .skip))))) (.seq (.reg [o1 33 (.mv 3),o1 34 (.mv 10),o1 35 (.mv 1),o1 36 (.mv 0),o1 37 (.len 36),o1 38 (.call 98 [35,37]),o1 39 (.iaddr 2 34 38),o1 40 (.callv 33 [39])]) (.seq (.reg [o1 41 (.mv 10),o1 8 (.mv 41),o1 9 (.mv (ci 0))]) .ret)))))),[(8,none),(9,none)]⟩
theorem Sw:xf Zi 282=some Gp:=by kernel_rfl
def Gq:AFn:=⟨7,(.reg [o1 3 (.mv 0),o1 4 (.ld 1 false 1),o1 5 (.nilchk 3),o1 6 (.faddr 1 5),o2 (.st 1 6 4)]),[]⟩
theorem Sx:xf Zi 283=some Gq:=by kernel_rfl
def Gv:AFn:=⟨7,(.reg [o1 3 (.mv 0),o1 4 (.nilchk 3),o1 5 (.faddr 1 4),o1 6 (.ld 1 false 5),o2 (.st 1 1 6)]),[]⟩
theorem Tc:xf Zi 288=some Gv:=by kernel_rfl
def Gt:AFn:=⟨16,(.seq (.seq (.reg [o1 5 (.ld 1 false 1),o1 6 (.bin .gtr 5 (ci 1099511627776))]) (.cond 6 (.seq (.reg [o2 (.st 1 2 (ci 40))]) .ret) .skip)) (.regT [o1 7 (.mv 0),o1 8 (.nilchk 7),o1 9 (.faddr 0 8),o1 10 (.ld 1 false 9),o1 11 (.ld 1 false 3),o1 12 (.len 11),o1 13 (.bin .add 10 12),o1 14 (.nilchk 7),o1 15 (.faddr 0 14),o2 (.st 1 15 13)] [(1,4),(2,4),(3,4),(1,5),(2,5),(3,5)])),[]⟩
theorem Ta:xf Zi 286=some Gt:=by kernel_rfl
def Fi:AFn:=⟨14,(.seq (.reg [o1 5 (.box 3 2),o1 6 (.mv (.const .slnil)),o1 7 (.mv (ci 0))]) (.seq (.reg [o1 8 (.mv 0),o1 9 (.mv 1),o1 10 (.mkfn (.func 283) [] [5]),o1 11 (.call 282 [8,9,(ci 30),10]),o1 12 (.ext 11 0),o1 13 (.ext 11 1),o1 6 (.mv 12),o1 7 (.mv 13)]) .ret)),[(6,none),(7,none)]⟩
theorem Rr:xf Zi 252=some Fi:=by kernel_rfl
def Gc:AFn:=⟨15,(.seq (.reg [o1 4 (.alloc 3 [(.int .i64 0)]),o1 5 (.mv (ci 0))]) (.seq (.reg [o1 7 (.mv 0),o1 8 (.mv 1),o1 9 (.mkfn (.func 288) [] [4]),o1 10 (.call 282 [7,8,(ci 40),9]),o1 6 (.mv 10),o1 11 (.ext 6 0),o1 12 (.ext 6 1),o1 5 (.mv 12)]) (.seq (.reg [o1 13 (.ld 1 false 4),o1 14 (.mv 5),o2 (.st 1 4 13),o1 5 (.mv 14)]) .ret))),[(4,some (1,false)),(5,none)]⟩
theorem Sk:xf Zi 271=some Gc:=by kernel_rfl
def Fr:AFn:=⟨20,(.seq (.reg [o1 2 (.box 26 0),o1 3 (.box 3 1),o1 4 (.mv (.const .slnil)),o1 5 (.mv (ci 0))]) (.seq (.reg [o1 6 (.alloc 36 [(.int .i64 0)]),o2 (.st 1 6 (ci 0))]) (.seq (.reg [o1 10 (.ld 1 false 2),o1 11 (.ld 1 false 3),o1 12 (.mkfn (.func 286) [] [3,6,2]),o1 13 (.call 282 [10,11,(ci 40),12]),o1 9 (.mv 13),o1 14 (.ext 9 0),o1 15 (.ext 9 1),o1 7 (.mv 14),o1 8 (.mv 15)]) (.seq (.reg [o1 16 (.mv 7),o1 17 (.ld 1 false 6),o1 18 (.mv 8),o1 19 (.mx 17 18),o1 4 (.mv 16),o1 5 (.mv 19)]) .ret)))),[(4,none),(5,none)]⟩
theorem Rz:xf Zi 260=some Fr:=by kernel_rfl
set_option maxHeartbeats 8000000
def Up:AFn:=⟨21,(.seq (.reg [o1 4 (.mv (.const .slnil)),o1 5 (.mv (ci 0))]) (.seq (.reg [o1 8 (.mv 0),o1 9 (.call 129 [8]),o1 6 (.mv 9)]) (.seq (.reg [o1 10 (.mv 0),o1 11 (.mv 1),o1 12 (.call 137 [10,11]),o1 7 (.mv 12)]) (.seq (.seq (.reg [o1 13 (.mv 7),o1 14 (.bin .lss 13 (ci 0))]) (.cond 14 (.seq (.reg [o1 15 (.mv 6),o1 4 (.mv 15),o1 5 (.mv (ci 40))]) .ret) .skip)) (.seq (.reg [o1 16 (.mv 6),o1 17 (.mv 7),o1 18 (.mv 7),o1 19 (.bin .add 18 (ci 1)),o1 20 (.call 138 [16,17,19]),o1 4 (.mv 20),o1 5 (.mv (ci 0))]) .ret))))),[(4,none),(5,none)]⟩
theorem Zf:xf Zi 89=some Up:=by kernel_rfl
set_option maxHeartbeats 8000000
def Gy:AFn:=⟨3,(.seq (.reg [o1 1 (.box 244 0),o1 2 (.mv (ci 0))]) (.seq (.reg [o1 2 (.mv (ci 0))]) .ret)),[(2,none)]⟩
theorem Tf:xf Zi 291=some Gy:=by kernel_rfl
def Gz:AFn:=⟨3,(.seq (.reg [o1 1 (.box 244 0),o1 2 (.mv (ci 0))]) (.seq (.reg [o1 2 (.mv (ci 1))]) .ret)),[(2,none)]⟩
theorem Tg:xf Zi 292=some Gz:=by kernel_rfl
def Hb:AFn:=⟨3,(.seq (.reg [o1 1 (.box 244 0),o1 2 (.mv (ci 0))]) (.seq (.reg [o1 2 (.mv (ci 2))]) .ret)),[(2,none)]⟩
theorem Ti:xf Zi 294=some Hb:=by kernel_rfl
def Ha:AFn:=⟨27,(.seq (.reg [o1 1 (.box 244 0),o1 2 (.mv (ci 0))]) (.seq (.block 0 (.seq (.reg [o1 4 (.faddr 7 1),o1 5 (.ld 1 false 4),o1 6 (.faddr 0 1),o1 7 (.faddr 4 6),o1 8 (.ld 1 false 7),o1 9 (.bin .lss 5 8),o1 3 (.mv 9)]) (.cond 3 (.seq (.reg [o1 10 (.ld 8 true 1),o1 11 (.call 291 [10]),o1 2 (.mv 11)]) .ret) (.seq (.reg [o1 13 (.faddr 7 1),o1 14 (.ld 1 false 13),o1 15 (.faddr 0 1),o1 16 (.faddr 4 15),o1 17 (.ld 1 false 16),o1 18 (.faddr 0 1),o1 19 (.faddr 5 18),o1 20 (.ld 1 false 19),o1 21 (.bin .add 17 20),o1 22 (.bin .lss 14 21),o1 12 (.mv 22)]) (.cond 12 (.seq (.reg [o1 23 (.ld 8 true 1),o1 24 (.call 292 [23]),o1 2 (.mv 24)]) .ret) .skip))))) (.seq (.reg [o1 25 (.ld 8 true 1),o1 26 (.call 294 [25]),o1 2 (.mv 26)]) .ret))),[(2,none)]⟩
theorem Th:xf Zi 293=some Ha:=by kernel_rfl
def Gn:AFn:=⟨20,(.seq (.reg [o1 2 (.box 23 0),o1 4 (.mv (ci 0))]) (.seq (.seq (.reg [o1 6 (.ld 7 true 2),o1 7 (.call 76 [6]),o1 8 (.bin .neq 7 (ci 0))]) (.cond 8 (.seq (.reg [o1 4 (.mv (ci 0))]) .ret) .skip)) (.seq (.reg [o1 9 (.mkmap),o2 (.mupd 9 (ci 0) (.func 291)),o2 (.mupd 9 (ci 1) (.func 292)),o2 (.mupd 9 (ci 2) (.func 293)),o2 (.mupd 9 (ci 3) (.func 294)),o1 10 (.mv 9),o1 5 (.mv 10)]) (.seq (.reg [o1 11 (.mv 5),o1 12 (.faddr 3 2),o1 13 (.ld 1 false 12),o1 14 (.lkp .fnnil false 11 13),o1 15 (.ld 7 true 2),o1 16 (.mv 1),o1 17 (.mx 16 (ci 0)),o1 18 (.build [(.int .i64 0),(.int .i64 0),(.int .i64 0),(.int .i64 0),(.int .i64 0),(.int .i64 0),(.bool false),(.int .i64 0)] [(0,7,15),(7,1,17)]),o1 19 (.callv 14 [18]),o1 4 (.mv 19)]) .ret)))),[(4,none)]⟩
theorem Sv:xf Zi 281=some Gn:=by kernel_rfl
set_option maxHeartbeats 8000000
def Gs:AFn:=⟨5,(.seq (.reg [o1 2 (.mv (.const (.bool false)))]) (.seq (.reg [o1 3 (.mv 0),o1 4 (.bin .eql 3 (ci 0)),o1 2 (.mv 4)]) .ret)),[(2,none)]⟩
theorem Sz:xf Zi 285=some Gs:=by kernel_rfl
def Hd:AFn:=⟨24,(.seq (.reg [o1 2 (.mv (ci 0)),o1 3 (.mv (.const (.bool false)))]) (.seq (.reg [o1 8 (.mv 0),o1 9 (.nilchk 8),o1 10 (.faddr 0 9),o1 11 (.faddr 1 10),o1 12 (.ld 1 false 11),o1 13 (.call 297 [12]),o1 7 (.mv 13),o1 14 (.ext 7 0),o1 15 (.ext 7 1),o1 16 (.ext 7 2),o1 4 (.mv 14),o1 5 (.mv 15),o1 6 (.mv 16)]) (.seq (.reg [o1 17 (.mv 0),o1 18 (.mv 5),o1 19 (.nilchk 17),o1 20 (.faddr 0 19),o1 21 (.faddr 1 20),o2 (.st 1 21 18)]) (.seq (.reg [o1 22 (.mv 4),o1 23 (.mv 6),o1 2 (.mv 22),o1 3 (.mv 23)]) .ret)))),[(2,none),(3,none)]⟩
theorem Tk:xf Zi 296=some Hd:=by kernel_rfl
def Gr:AFn:=⟨45,(.seq (.reg [o1 2 (.box 29 0),o1 4 (.alloc 29 [(.int .i64 0),.slnil]),o1 5 (.mv (.const .slnil))]) (.seq (.reg [o1 11 (.ld 2 true 2),o1 12 (.call 90 [11]),o1 13 (.build [(.int .i64 0),.slnil] [(0,2,12)]),o1 6 (.alloc 247 [(.int .i64 0),.slnil]),o2 (.st 2 6 13)]) (.seq (.seq (.reg [o1 14 (.ld 2 true 2),o1 15 (.call 55 [14]),o1 16 (.not 15)]) (.cond 16 (.seq (.reg [o1 17 (.faddr 0 6),o1 18 (.ld 2 true 17),o2 (.st 2 4 18),o1 5 (.mv (.const .slnil))]) .ret) .skip)) (.seq (.reg [o1 19 (.faddr 0 6),o1 20 (.faddr 0 19),o1 21 (.ld 1 false 20),o1 22 (.bin .add 21 (ci 1)),o1 23 (.mn 22 (ci 1099511627776)),o1 24 (.faddr 0 6),o1 25 (.faddr 0 24),o2 (.st 1 25 23)]) (.seq (.reg [o1 7 (.mv (.const .slnil))]) (.seq (.reg [o1 26 (.mkfn (.func 296) [6] []),o1 8 (.mv 26)]) (.seq (.block 0 (.loop (.seq (.seq (.reg [o1 27 (.mv 1),o1 28 (.mv 7),o1 29 (.len 28),o1 30 (.callv 27 [29])]) (.cond 30 .skip (.exit 0))) (.block 1 (.seq (.reg [o1 32 (.mv 8),o1 33 (.callv 32 []),o1 31 (.mv 33),o1 34 (.ext 31 0),o1 35 (.ext 31 1),o1 9 (.mv 34),o1 10 (.mv 35)]) (.seq (.seq (.reg [o1 36 (.mv 10),o1 37 (.not 36)]) (.cond 37 (.exit 0) .skip)) (.reg [o1 38 (.mv 7),o1 39 (.mv 9),o1 40 (.bslice 3 1 1 [39]),o1 41 (.app 3 1 8 38 40),o1 7 (.mv 41)]))))))) (.seq (.reg [o1 42 (.faddr 0 6),o1 43 (.ld 2 true 42),o1 44 (.mv 7),o2 (.st 2 4 43),o1 5 (.mv 44)]) .ret)))))))),[(4,some (2,true)),(5,none)]⟩
theorem Sy:xf Zi 284=some Gr:=by kernel_rfl
def Fl:AFn:=⟨20,(.seq (.reg [o1 1 (.box 29 0),o1 2 (.alloc 29 [(.int .i64 0),.slnil]),o1 3 (.mv (ci 0)),o1 4 (.mv (.const (.bool false)))]) (.seq (.reg [o1 8 (.ld 2 true 1),o1 9 (.call 284 [8,(.func 285)]),o1 7 (.mv 9),o1 10 (.ext 7 0),o1 11 (.ext 7 1),o1 5 (.alloc 29 [(.int .i64 0),.slnil]),o2 (.st 2 5 10),o1 6 (.mv 11)]) (.seq (.seq (.reg [o1 12 (.mv 6),o1 13 (.len 12),o1 14 (.bin .eql 13 (ci 0))]) (.cond 14 (.seq (.reg [o1 15 (.ld 2 true 5),o2 (.st 2 2 15),o1 3 (.mv (ci 0)),o1 4 (.mv (.const (.bool false)))]) .ret) .skip)) (.seq (.regT [o1 16 (.ld 2 true 5),o1 17 (.mv 6),o1 18 (.iaddr 1 17 (ci 0)),o1 19 (.ld 1 false 18),o2 (.st 2 2 16),o1 3 (.mv 19),o1 4 (.mv (.const (.bool true)))] [(0,2),(0,3),(2,4),(3,4)]) .ret)))),[(2,some (2,true)),(3,none),(4,none)]⟩
theorem Ru:xf Zi 255=some Fl:=by kernel_rfl
set_option maxHeartbeats 8000000
def Kv:AFn:=⟨11,(.seq (.reg [o1 3 (.mv (.const (.bool false)))]) (.seq (.reg [o1 4 (.mv 0),o1 5 (.bin .lss 4 (ci 0)),o1 6 (.mv 5),o4 7 (.mv 0) 6,o4 8 (.ld 1 false 1) 6,o4 9 (.bin .geq 7 8) 6,o1 10 (.pick 6 (.const (.bool true)) 9),o1 3 (.mv 10)]) .ret)),[(3,none)]⟩
theorem Vw:xf Zi 99=some Kv:=by kernel_rfl
theorem Hu {x th:Int}  : bO Zi 99 [.int .i64 x,.pv [.int .i64 th]] ((.bool ((decide (x<0) || decide (x≥th)))),[],[]):=by
  refine aG cD Vw (by simp [Kv]) fun hw _=>?_
  simp only [eP,AV.wf,aD] at hw
  repeat' with_reducible first|refine aO (fun h=>?_) (fun h=>?_)|refine aT (fun h=>?_) (fun h=>?_)|refine aC (fun h=>?_) (fun h=>?_)|refine aH (fun h=>?_) (fun h=>?_)|refine aN ?_ ?_ ?_ ?_|refine aP ?_ ?_|refine aU ?_ ?_|refine bE ?_ ?_|simp -implicitDefEqProofs only [Kv,qA,aZ,bJ,aF,aL,qU,Zj,Zs,Zt,Zo,Zk,Zu,reduceIte,reduceCtorEq,bC, *]
  all_goals first
    | (simp; done)
    | exact aE
    | exact aE.symm
    | grind [aD,aR,aJ]

def lT (th:Int) (a b c d:List Int):Bool:=cN th a && cN th b && cN th c && cN th d
def Kf:AFn:=⟨24,(.seq (.reg [o1 2 (.box 3 0),o1 4 (.mv (.const (.bool false)))]) (.seq (.reg [o1 8 (.mkfn (.func 99) [] [2]),o1 5 (.mv 8)]) (.seq (.seq (.reg [o1 9 (.mv 1),o1 10 (.len 9),o1 11 (.mv (ci 0))]) (.block 0 (.loop (.seq (.reg [o1 12 (.bin .lss 11 10)]) (.seq (.cond 12 .skip (.exit 0)) (.seq (.block 1 (.seq (.reg [o1 13 (.iaddr 1 9 11),o1 14 (.ld 1 false 13),o1 7 (.mv 14)]) (.seq (.reg [o1 15 (.mv 7),o1 16 (.call 100 [15]),o1 17 (.not 16),o1 18 (.mv 17),o4 19 (.mv 7) 18,o4 20 (.mv 5) 18,o4 21 (.call 101 [19,20]) 18,o1 22 (.pick 18 (.const (.bool true)) 21)]) (.cond 22 (.seq (.reg [o1 4 (.mv (.const (.bool false)))]) .ret) .skip)))) (.reg [o1 23 (.bin .add 11 (ci 1)),o1 11 (.mv 23)]))))))) (.seq (.reg [o1 4 (.mv (.const (.bool true)))]) .ret)))),[(4,none)]⟩
theorem Vh:xf Zi 54=some Kf:=by kernel_rfl
theorem c4:((4:Nat):Int)=4:=rfl
theorem On:IntKind.wrap .i64 1=1:=by decide
theorem Oo:IntKind.wrap .i64 2=2:=by decide
theorem Oq:IntKind.wrap .i64 3=3:=by decide
theorem Ot:IntKind.wrap .i64 4=4:=by decide
theorem Cw:IntKind.wrap .i64 (0+1)=1:=by decide
theorem Cx:IntKind.wrap .i64 (1+1)=2:=by decide
theorem Cy:IntKind.wrap .i64 (2+1)=3:=by decide
theorem Cz:IntKind.wrap .i64 (3+1)=4:=by decide
theorem Oi {P:Program} {b0:Nat} {ac:ACode} {K:KX} {env:List AV} {m:AM} {b:Nat}:rZ P b0 ac K 4 env m b=vc P b0 ac (Ar b0 (rZ P b0 ac K 3) K) env m b:=rfl
theorem Oj {P:Program} {b0:Nat} {ac:ACode} {K:KX} {env:List AV} {m:AM} {b:Nat}:rZ P b0 ac K 5 env m b=vc P b0 ac (Ar b0 (rZ P b0 ac K 4) K) env m b:=rfl
theorem Hs {th:Int} {a b c d:List Int} (ha:a.length≤100000000) (hb:b.length≤100000000) (hc:c.length≤100000000) (hd:d.length≤100000000):bO Zi 54 [.int .i64 th,.slv 1 [[.slv 1 (a.map aW)],[.slv 1 (b.map aW)],[.slv 1 (c.map aW)],[.slv 1 (d.map aW)]]] (.bool (lT th a b c d),[],[]):=by
  refine aG cD Vh (by simp [Kf]) fun hw _=>?_
  simp only [eP,AV.wf,aD,BB] at hw
  repeat' with_reducible first|refine aO (fun h=>?_) (fun h=>?_)|refine aT (fun h=>?_) (fun h=>?_)|refine aC (fun h=>?_) (fun h=>?_)|refine aH (fun h=>?_) (fun h=>?_)|refine aN ?_ ?_ ?_ ?_|refine aP ?_ ?_|refine aU ?_ ?_|refine bE ?_ ?_|refine AY (vE (p:=fun id=>decide (id<0) || decide (id≥th)) (caps:=[.pv [.int .i64 th]]) rfl (fun x _=>Hu)) ?_ ?_ ?_|refine AC.viewAll ?_ ?_ ?_|refine nH 5 ?_ ?_|refine And.intro (Nat.le_of_ble_eq_true rfl) ?_|refine P0 (kG ?_) ?_ ?_ ?_|refine AY (kG ?_) ?_ ?_ ?_|refine ACK.of (kG ?_) ?_ ?_|simp -implicitDefEqProofs only [Kf,qA,cK,bC,cM,aF,aL,qU,Zj,Zs,Zt,Zo,Zk,Zu,reduceIte,reduceCtorEq,qI,AE,AB,Oi,Oj,Int.toNat_natCast,cE,List.getD_cons_zero,List.getD_cons_succ,Int.natCast_zero,Int.natCast_one,Int.reduceLT,Int.reduceLE,Int.reduceAdd,Int.reduceToNat,c4,On,Oo,Oq,Ot,Cw,Cx,Cy,Cz,Int.toNat_one,Int.toNat_zero, *]
  all_goals first
    | omega
    | (simp; done)
    | grind [lT,cN]
    | skip

set_option maxHeartbeats 8000000
def Kc:AFn:=⟨6,(.seq (.reg [o1 1 (.box 42 0),o1 2 (.mv (.const (.bool false)))]) (.seq (.reg [o1 3 (.ld 11 true 1),o1 4 (.call 51 [3]),o1 5 (.not 4),o1 2 (.mv 5)]) .ret)),[(2,none)]⟩
theorem Vc:xf Zi 50=some Kc:=by kernel_rfl
theorem Hr {fB bY:Int} {dB cB:Int} {fA cZ:Int} {cA bN:Int} {bZ:Bool} {dA cY:Int}  : bO Zi 50 [.agg [.int .i64 fB,.int .i64 bY,.int .i64 dB,.int .i64 cB,.int .i64 fA,.int .i64 cZ,.int .i64 cA,.int .i64 bN,.bool bZ,.int .i64 dA,.int .i64 cY]] ((.bool (!bK (Thread.mk fB bY dB cB fA cZ cA bN bZ dA cY))),[],[]):=by
  refine aG cD Vc (by simp [Kc]) fun hw _=>?_
  simp only [eP,AV.wf,aD] at hw
  repeat' with_reducible first|refine aO (fun h=>?_) (fun h=>?_)|refine aT (fun h=>?_) (fun h=>?_)|refine aC (fun h=>?_) (fun h=>?_)|refine aH (fun h=>?_) (fun h=>?_)|refine aN ?_ ?_ ?_ ?_|refine aP ?_ ?_|refine aU ?_ ?_|refine bE ?_ ?_|refine P0 (vH) ?_ ?_ ?_|refine AY (vH) ?_ ?_ ?_|refine ACK.of (vH) ?_ ?_|simp -implicitDefEqProofs only [Kc,qA,aZ,bJ,aF,aL,qU,Zj,Zs,Zt,Zo,Zk,Zu,reduceIte,reduceCtorEq, *]
  all_goals first
    | (simp; done)
    | exact aE
    | exact aE.symm
    | grind [aD,aR,aJ]

theorem Bu (x:Thread):bO Zi 50 (.agg (bW x) :: []) (.bool (!bK x),[],[]):=Hr
def Jy:AFn:=⟨68,(.seq (.reg [o1 1 (.box 33 0),o1 2 (.mv (.const (.bool false)))]) (.seq (.reg [o1 5 (.faddr 0 1),o1 6 (.ld 7 true 5),o1 7 (.call 49 [6]),o1 3 (.mv 7)]) (.seq (.reg [o1 4 (.mv (.func 50))]) (.seq (.block 0 (.seq (.seq (.reg [o1 9 (.mv 3),o1 10 (.bin .eql 9 (ci 0)),o1 8 (.mv 10)]) (.cond 8 .skip (.seq (.reg [o1 11 (.faddr 7 1),o1 12 (.ld 3 true 11),o1 13 (.mv 3),o1 14 (.call 52 [12,13]),o1 15 (.not 14),o1 8 (.mv 15)]) (.cond 8 .skip (.seq (.reg [o1 16 (.faddr 10 1),o1 17 (.ld 1 false 16),o1 18 (.len 17),o1 19 (.mv 3),o1 20 (.bin .neq 18 19),o1 8 (.mv 20)]) (.cond 8 .skip (.reg [o1 21 (.faddr 10 1),o1 22 (.ld 1 false 21),o1 23 (.call 53 [22]),o1 24 (.not 23),o1 8 (.mv 24)]))))))) (.cond 8 (.seq (.reg [o1 2 (.mv (.const (.bool false)))]) .ret) (.seq (.seq (.reg [o1 26 (.faddr 0 1),o1 27 (.faddr 1 26),o1 28 (.ld 1 false 27),o1 29 (.faddr 11 1),o1 30 (.ld 1 false 29),o1 31 (.faddr 12 1),o1 32 (.ld 1 false 31),o1 33 (.faddr 13 1),o1 34 (.faddr 1 33),o1 35 (.ld 1 false 34),o1 36 (.faddr 15 1),o1 37 (.faddr 1 36),o1 38 (.ld 1 false 37),o1 39 (.bslice 27 1 4 [30,32,35,38]),o1 40 (.call 54 [28,39]),o1 41 (.not 40),o1 25 (.mv 41)]) (.cond 25 .skip (.seq (.reg [o1 42 (.faddr 13 1),o1 43 (.ld 2 true 42),o1 44 (.call 55 [43]),o1 45 (.not 44),o1 25 (.mv 45)]) (.cond 25 .skip (.reg [o1 46 (.faddr 15 1),o1 47 (.ld 2 true 46),o1 48 (.call 55 [47]),o1 49 (.not 48),o1 25 (.mv 49)]))))) (.cond 25 (.seq (.reg [o1 2 (.mv (.const (.bool false)))]) .ret) (.seq (.seq (.reg [o1 51 (.faddr 17 1),o1 52 (.ld 1 false 51),o1 53 (.bin .lss 52 (ci 0)),o1 50 (.mv 53)]) (.cond 50 .skip (.seq (.reg [o1 54 (.faddr 17 1),o1 55 (.ld 1 false 54),o1 56 (.bin .gtr 55 (ci 1099511627776)),o1 50 (.mv 56)]) (.cond 50 .skip (.seq (.reg [o1 57 (.faddr 18 1),o1 58 (.ld 1 false 57),o1 59 (.len 58),o1 60 (.faddr 0 1),o1 61 (.faddr 1 60),o1 62 (.ld 1 false 61),o1 63 (.bin .neq 59 62),o1 50 (.mv 63)]) (.cond 50 .skip (.reg [o1 64 (.faddr 18 1),o1 65 (.ld 1 false 64),o1 66 (.mv 4),o1 67 (.call 56 [65,66]),o1 50 (.mv 67)]))))))) (.cond 50 (.seq (.reg [o1 2 (.mv (.const (.bool false)))]) .ret) .skip))))))) (.seq (.reg [o1 2 (.mv (.const (.bool true)))]) .ret))))),[(2,none)]⟩
theorem Lm:xf Zi 18=some Jy:=by kernel_rfl
theorem Hp {xG xH:Int} {qB xI:Int} {mM qD:Int} {hG:Bool} {Iq Is Ir:Int} {iR:List Slot} {iQ iP:List Int} {xF:Int} {uM:List Int} {xE:Int} {uL:List Int} {pZ:Int} {nP:List Thread} {nO:List Entry} (h1:iR.length≤100000000) (h2:iQ.length≤100000000) (h3:iP.length≤100000000) (h4:uM.length≤100000000) (h5:uL.length≤100000000) (h6:nP.length≤100000000) (h7:nO.length≤100000000):bO Zi 18 [.agg [.int .i64 xG,.int .i64 xH,.int .i64 qB,.int .i64 xI,.int .i64 mM,.int .i64 qD,.bool hG,.int .i64 Iq,.int .i64 Is,.int .i64 Ir,.slv 2 (iR.map dQ),.slv 1 (iQ.map aW),.slv 1 (iP.map aW),.int .i64 xF,.slv 1 (uM.map aW),.int .i64 xE,.slv 1 (uL.map aW),.int .i64 pZ,.slv 11 (nP.map bW),.slv 5 (nO.map gW)]] (.bool (eJ (State.mk (Config.mk xG xH qB xI mM qD hG) (Word.mk Iq Is Ir) iR iQ iP (Event.mk xF uM) (Event.mk xE uL) pZ nP nO)),[],[]):=by
  refine aG cD Lm (by simp [Jy]) fun hw _=>?_
  simp only [eP,AV.wf,aD,BB] at hw
  repeat' with_reducible first|refine aO (fun h=>?_) (fun h=>?_)|refine aT (fun h=>?_) (fun h=>?_)|refine aC (fun h=>?_) (fun h=>?_)|refine aH (fun h=>?_) (fun h=>?_)|refine aN ?_ ?_ ?_ ?_|refine aP ?_ ?_|refine aU ?_ ?_|refine bE ?_ ?_|refine P0 (Ht (p:=fun t=>!bK t) (caps:=[]) rfl (fun x _=>Bu x)) ?_ ?_ ?_|refine AY (Hs ?_ ?_ ?_ ?_) ?_ ?_ ?_|refine AC.viewAll ?_ ?_ ?_|refine P0 (vG) ?_ ?_ ?_|refine AY (vG) ?_ ?_ ?_|refine ACK.of (vG) ?_ ?_|refine P0 (nD) ?_ ?_ ?_|refine AY (nD) ?_ ?_ ?_|refine ACK.of (nD) ?_ ?_|refine P0 (vI ?_) ?_ ?_ ?_|refine AY (vI ?_) ?_ ?_ ?_|refine ACK.of (vI ?_) ?_ ?_|refine P0 (vJ ?_) ?_ ?_ ?_|refine AY (vJ ?_) ?_ ?_ ?_|refine ACK.of (vJ ?_) ?_ ?_|simp -implicitDefEqProofs only [Jy,qA,cK,bC,cM,aF,aL,qU,Zj,Zs,Zt,Zo,Zk,Zu,reduceIte,reduceCtorEq,qI,AE,AB,aX,bW, *]
  all_goals first
    | omega
    | (simp; done)
    | grind [eJ,lT]
    | skip

end Go.Sak
