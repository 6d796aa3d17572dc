/- Part U13 of the proofs about the program: K5, K6, K7. Conditions: none. -/
import Derived.Test.YtahdilehajdhgaaGreatU12
open Int renaming natCast_zero→AD,toNat_natCast→Zy
open List renaming reduceReplicate→Zj
open Nat renaming reduceAdd→Zs,reduceEqDiff→Zk,reduceLeDiff→Zo,reduceMul→Zu,reduceSub→Zt
open Go.Proofs.Tryz renaming prog→Zi
namespace Go.Sak
open Go Go.RowKit Go.Proofs
set_option linter.unusedVariables false
set_option linter.unusedSimpArgs false
set_option maxRecDepth 10000
set_option maxHeartbeats 8000000
def Fb:AFn:=⟨28,(.seq (.reg [o1 4 (.mv (.const .slnil)),o1 5 (.mv (ci 0))]) (.seq (.reg [o1 7 (.mv 0),o1 8 (.call 129 [7]),o1 6 (.mv 8)]) (.seq (.block 0 (.seq (.seq (.reg [o1 10 (.mv 0),o1 11 (.call 100 [10]),o1 12 (.not 11),o1 9 (.mv 12)]) (.cond 9 .skip (.reg [o1 13 (.mv 1),o1 14 (.bslice 3 1 1 [13]),o1 15 (.call 100 [14]),o1 16 (.not 15),o1 9 (.mv 16)]))) (.cond 9 (.seq (.reg [o1 17 (.mv 6),o1 4 (.mv 17),o1 5 (.mv (ci 40))]) .ret) (.seq (.reg [o1 19 (.mv 0),o1 20 (.mv 1),o1 21 (.call 137 [19,20]),o1 22 (.bin .geq 21 (ci 0)),o1 18 (.mv 22)]) (.cond 18 (.seq (.reg [o1 23 (.mv 6),o1 4 (.mv 23),o1 5 (.mv (ci 60))]) .ret) .skip))))) (.seq (.reg [o1 24 (.mv 6),o1 25 (.mv 1),o1 26 (.bslice 3 1 1 [25]),o1 27 (.app 3 1 8 24 26),o1 4 (.mv 27),o1 5 (.mv (ci 0))]) .ret)))),[(4,none),(5,none)]⟩
theorem Qv:xf Zi 245=some Fb:=by kernel_rfl
set_option maxHeartbeats 8000000
def Db:AFn:=⟨38,(.seq (.reg [o1 2 (.mv (.const (.bool false)))]) (.seq (.seq (.reg [o1 5 (.mv 0),o1 6 (.len 5),o1 7 (.mv (ci 0))]) (.block 0 (.loop (.seq (.reg [o1 8 (.bin .lss 7 6)]) (.seq (.cond 8 .skip (.exit 0)) (.seq (.block 1 (.seq (.reg [o1 9 (.mv 7),o1 10 (.iaddr 2 5 7),o1 11 (.ld 2 true 10),o1 4 (.alloc 107 [(.int .i64 0),(.int .i64 0)]),o1 3 (.mv 9),o2 (.st 2 4 11)]) (.seq (.reg [o1 12 (.faddr 0 4),o1 13 (.ld 1 false 12),o1 14 (.bin .lss 13 (ci 0)),o1 15 (.mv 14),o4 16 (.faddr 0 4) 15,o4 17 (.ld 1 false 16) 15,o4 18 (.bin .gtr 17 (ci 2199023255552)) 15,o1 19 (.pick 15 (.const (.bool true)) 18),o1 20 (.mv 19),o4 21 (.faddr 0 4) 20,o4 22 (.ld 1 false 21) 20,o4 23 (.mv 0) 20,o4 24 (.len 23) 20,o4 25 (.call 98 [22,24]) 20,o4 26 (.mv 3) 20,o4 27 (.bin .neq 25 26) 20,o1 28 (.pick 20 (.const (.bool true)) 27)]) (.cond 28 (.seq (.reg [o1 2 (.mv (.const (.bool false)))]) .ret) .skip)))) (.reg [o1 29 (.bin .add 7 (ci 1)),o1 7 (.mv 29)]))))))) (.seq (.reg [o1 30 (.mv 0),o1 31 (.len 30),o1 32 (.bin .geq 31 (ci 1)),o1 33 (.mv 32),o3 34 (.mv 0) 33,o3 35 (.len 34) 33,o3 36 (.bin .leq 35 (ci 64)) 33,o1 37 (.pick 33 36 (.const (.bool false))),o1 2 (.mv 37)]) .ret))),[(2,none)]⟩
theorem Vg:xf Zi 53=some Db:=by kernel_rfl
theorem vI {l:List Slot} (hl:l.length≤1000000000):bO Zi 53 [.slv 2 (l.map dQ)] (.bool (dC l),[],[]):=by
  refine aG cD Vg (by simp [Db]) fun hw _=>?_
  simp only [eP,AV.wf,aD,List.length_map] at hw
  simp -implicitDefEqProofs only [Db,qA,aZ,bJ,aF,aL,qU,Zj,Zs,Zt,Zo,Zk,Zu,reduceIte,reduceCtorEq,len_encS,kU,dQ,Zy,AD]
  refine sS (fun i:Nat=>[some (.slv 2 (l.map dQ)),none,none,none,none,some (.slv 2 (l.map dQ)),some (.int .i64 l.length),some (.int .i64 i),none,none,none,none,none,none,none,none,none,none,none,none,none,none,none,none,none,none,none,none,none,none,none,none,none,none,none,none,none,none]) (fun i=>i≤l.length∧∀ j,j<i→kT l j=true) (fun i=>l.length - i) 0 ?_ ?_ ?_ ?_ ?_
  rotate_right
  · intro i hJ
    simp only [dF,dE,all_nil]
    intros
    repeat' with_reducible first|refine aO (fun h=>?_) (fun h=>?_)|refine aT (fun h=>?_) (fun h=>?_)|refine aC (fun h=>?_) (fun h=>?_)|refine aH (fun h=>?_) (fun h=>?_)|refine aN ?_ ?_ ?_ ?_|refine aP ?_ ?_|refine aU ?_ ?_|refine bE ?_ ?_|refine dR (d:=default) ?_ ?_|refine sZ (i+1) ?_ ?_ ?_ ?_ ?_|refine P0 (vS) ?_ ?_ ?_|refine ACV.of (vS) ?_ ?_ ?_|refine ACK.of (vS) ?_ ?_|simp -implicitDefEqProofs only [Db,qA,aZ,bJ,aF,aL,qU,Zj,Zs,Zt,Zo,Zk,Zu,reduceIte,reduceCtorEq,len_encS,kU,dQ,Zy,AD, *]
    all_goals first
    | (simp; done)
    | (rw [dC,xA (i:=i) (by grind) (by grind [kT])]; simp; done)
    | (rw [dC,xB (by grind)]; grind)
    | grind [aD,aR,aJ,cT,kT]
  all_goals first
    | (simp; done)
    | (simp -implicitDefEqProofs only [Db,qA,aZ,bJ,aF,aL,qU,Zj,Zs,Zt,Zo,Zk,Zu,reduceIte,reduceCtorEq,len_encS,kU,dQ,Zy,AD]; done)
    | (rw [dC,xA (i:=i) (by grind) (by grind [kT])]; simp; done)
    | (rw [dC,xB (by grind)]; grind)
    | grind [aD,aR,aJ,cT,kT]

def Hc:AFn:=⟨23,(.seq (.reg [o1 4 (.mv (.const (.bool false)))]) (.seq (.reg [o1 5 (.mv 1),o1 6 (.bin .geq 5 (ci 0)),o1 7 (.mv 6),o3 8 (.mv 0) 7,o3 9 (.call 53 [8]) 7,o1 10 (.pick 7 9 (.const (.bool false))),o1 11 (.mv 10),o3 12 (.mv 0) 11,o3 13 (.mv 1) 11,o3 14 (.mv 0) 11,o3 15 (.len 14) 11,o3 16 (.call 98 [13,15]) 11,o3 17 (.iaddr 2 12 16) 11,o3 18 (.faddr 0 17) 11,o3 19 (.ld 1 false 18) 11,o3 20 (.mv 1) 11,o3 21 (.bin .eql 19 20) 11,o1 22 (.pick 11 21 (.const (.bool false))),o1 4 (.mv 22)]) .ret)),[(4,none)]⟩
theorem Tj:xf Zi 295=some Hc:=by kernel_rfl
def He:AFn:=⟨21,(.seq (.reg [o1 2 (.mv (ci 0)),o1 3 (.mv (.const .slnil)),o1 4 (.mv (.const (.bool false)))]) (.seq (.seq (.reg [o1 5 (.mv 0),o1 6 (.call 100 [5]),o1 7 (.not 6),o1 8 (.mv 7),o4 9 (.mv 0) 8,o4 10 (.len 9) 8,o4 11 (.bin .eql 10 (ci 0)) 8,o1 12 (.pick 8 (.const (.bool true)) 11)]) (.cond 12 (.seq (.reg [o1 13 (.mv 0),o1 14 (.call 129 [13]),o1 2 (.mv (ci 0)),o1 3 (.mv 14),o1 4 (.mv (.const (.bool false)))]) .ret) .skip)) (.seq (.regT [o1 15 (.mv 0),o1 16 (.iaddr 1 15 (ci 0)),o1 17 (.ld 1 false 16),o1 18 (.mv 0),o1 19 (.slc 1 18 (some (ci 1)) none),o1 20 (.call 129 [19]),o1 2 (.mv 17),o1 3 (.mv 20),o1 4 (.mv (.const (.bool true)))] [(1,4),(2,4),(1,5),(2,5)]) .ret))),[(2,none),(3,none),(4,none)]⟩
theorem Tl:xf Zi 297=some He:=by kernel_rfl
set_option maxHeartbeats 8000000
def Kg:AFn:=⟨16,(.seq (.reg [o1 1 (.box 29 0),o1 2 (.mv (.const (.bool false)))]) (.seq (.reg [o1 3 (.faddr 0 1),o1 4 (.ld 1 false 3),o1 5 (.bin .geq 4 (ci 0)),o1 6 (.mv 5),o3 7 (.faddr 0 1) 6,o3 8 (.ld 1 false 7) 6,o3 9 (.bin .leq 8 (ci 1099511627776)) 6,o1 10 (.pick 6 9 (.const (.bool false))),o1 11 (.mv 10),o3 12 (.faddr 1 1) 11,o3 13 (.ld 1 false 12) 11,o3 14 (.call 100 [13]) 11,o1 15 (.pick 11 14 (.const (.bool false))),o1 2 (.mv 15)]) .ret)),[(2,none)]⟩
theorem Vi:xf Zi 55=some Kg:=by kernel_rfl
theorem vJ {Ib:Int} {Ca:List Int} (hl:Ca.length≤100000000):bO Zi 55 [.agg [.int .i64 Ib,.slv 1 (Ca.map aW)]] ((.bool (kW (Event.mk Ib Ca))),[],[]):=by
  refine aG cD Vi (by simp [Kg]) fun hw _=>?_
  simp only [eP,AV.wf,aD] at hw
  repeat' with_reducible first|refine aO (fun h=>?_) (fun h=>?_)|refine aT (fun h=>?_) (fun h=>?_)|refine aC (fun h=>?_) (fun h=>?_)|refine aH (fun h=>?_) (fun h=>?_)|refine aN ?_ ?_ ?_ ?_|refine aP ?_ ?_|refine aU ?_ ?_|refine bE ?_ ?_|refine P0 (kG ?_) ?_ ?_ ?_|refine ACV.of (kG ?_) ?_ ?_ ?_|refine ACK.of (kG ?_) ?_ ?_|simp -implicitDefEqProofs only [Kg,qA,aZ,bJ,aF,aL,qU,Zj,Zs,Zt,Zo,Zk,Zu,reduceIte,reduceCtorEq, *]
  all_goals first
    | (simp; done)
    | exact aE
    | exact aE.symm
    | grind [aD,aR,aJ,kW]

def Uq:AFn:=⟨9,(.seq (.reg [o1 1 (.box 29 0),o1 2 (.alloc 29 [(.int .i64 0),.slnil])]) (.seq (.regT [o1 3 (.faddr 0 1),o1 4 (.ld 1 false 3),o1 5 (.faddr 1 1),o1 6 (.ld 1 false 5),o1 7 (.call 129 [6]),o1 8 (.build [(.int .i64 0),.slnil] [(0,1,4),(1,1,7)]),o2 (.st 2 2 8)] [(0,2),(1,2),(0,3),(1,3),(0,4),(1,4)]) .ret)),[(2,some (2,true))]⟩
theorem Zg:xf Zi 90=some Uq:=by kernel_rfl
def Fk:AFn:=⟨8,(.seq (.reg [o1 1 (.box 29 0),o1 2 (.mv (ci 0))]) (.seq (.seq (.reg [o1 3 (.ld 2 true 1),o1 4 (.call 55 [3]),o1 5 (.not 4)]) (.cond 5 (.seq (.reg [o1 2 (.mv (ci (-1)))]) .ret) .skip)) (.seq (.reg [o1 6 (.faddr 0 1),o1 7 (.ld 1 false 6),o1 2 (.mv 7)]) .ret))),[(2,none)]⟩
theorem Rt:xf Zi 254=some Fk:=by kernel_rfl
def Fm:AFn:=⟨38,(.seq (.reg [o1 3 (.box 29 0),o1 6 (.alloc 29 [(.int .i64 0),.slnil]),o1 7 (.mv (.const (.bool false))),o1 8 (.mv (ci 0))]) (.seq (.seq (.reg [o1 11 (.ld 2 true 3),o1 12 (.call 55 [11]),o1 13 (.not 12)]) (.cond 13 (.seq (.reg [o1 14 (.ld 2 true 3),o1 15 (.call 90 [14]),o2 (.st 2 6 15),o1 7 (.mv (.const (.bool false))),o1 8 (.mv (ci 40))]) .ret) .skip)) (.seq (.reg [o1 17 (.faddr 1 3),o1 18 (.ld 1 false 17),o1 19 (.mv 2),o1 20 (.call 245 [18,19]),o1 16 (.mv 20),o1 21 (.ext 16 0),o1 22 (.ext 16 1),o1 9 (.mv 21),o1 10 (.mv 22)]) (.seq (.seq (.reg [o1 23 (.mv 10),o1 24 (.bin .neq 23 (ci 0)),o1 25 (.mv 24),o4 26 (.faddr 0 3) 25,o4 27 (.ld 1 false 26) 25,o4 28 (.mv 1) 25,o4 29 (.bin .neq 27 28) 25,o1 30 (.pick 25 (.const (.bool true)) 29)]) (.cond 30 (.seq (.reg [o1 31 (.ld 2 true 3),o1 32 (.call 90 [31]),o1 33 (.mv 10),o2 (.st 2 6 32),o1 7 (.mv (.const (.bool false))),o1 8 (.mv 33)]) .ret) .skip)) (.seq (.reg [o1 34 (.faddr 0 3),o1 35 (.ld 1 false 34),o1 36 (.mv 9),o1 37 (.build [(.int .i64 0),.slnil] [(0,1,35),(1,1,36)]),o2 (.st 2 6 37),o1 7 (.mv (.const (.bool true))),o1 8 (.mv (ci 0))]) .ret))))),[(6,some (2,true)),(7,none),(8,none)]⟩
theorem Rv:xf Zi 256=some Fm:=by kernel_rfl
end Go.Sak
