/- Part U140 of the proofs about the program: Xw, K240. Conditions: none. -/
import Derived.Test.YtahdilehajdhgaaGreatU111
import Derived.Test.YtahdilehajdhgaaGreatU47
open Int renaming natCast_zero→AD,reduceEq→BC,toNat_natCast→Zy
open List renaming flatMap_cons→DG,flatMap_nil→DP,range→BR,reduceReplicate→Zj
open Nat renaming reduceAdd→Zs,reduceBEq→AB,reduceEqDiff→Zk,reduceLT→AE,reduceLeDiff→Zo,reduceMul→Zu,reduceSub→Zt
open Go.Proofs.Tryz renaming prog→Zi
namespace Go.Sak
open Go Go.RowKit
set_option linter.unusedVariables false
def pH (pc:Int):Int:=if pc=3 then 3 else if pc=4 then 2 else if pc=6 then 1 else 0
def Og (pc:Int):Int:=if pc=4 then 2 else if pc=6 then 1 else 0
def nU (pc:Int):Int×Int:=if pc=1 then (1,2) else if pc=2 then (0,1) else (0,0)
def At (sd:Int) (t:Thread):Int :=
  if sd=1∧dD t.kind=2∧pH t.pc<3 then pH t.pc else if sd=2∧dD t.kind=1∧Og t.pc<2 then Og t.pc else
    if sd=1∧dD t.kind=3 then (nU t.pc).1 else if sd=2∧dD t.kind=3 then (nU t.pc).2 else 0
def cH (s:State) (id:Int):Bool:=eJ s && decide (id≥0) && decide (id<s.threads.length) && decide ((me s id).st=2)
def iA (s:State) (id:Int):Bool :=
  cH s id && (if dD (me s id).kind=1 then decide ((qS s.word s.slots.length).1=2) else if dD (me s id).kind=2 then decide ((qS s.word s.slots.length).2=4) else false)
def eE (s:State) (id:Int) (k:Nat):Bool:=decide (qL (s.threads.getD k default)=0) && decide (At (dD (me s id).kind) (s.threads.getD k default) > 0)
def mY (s:State) (id:Int) (n:Nat):List Int:=((BR n).filter (eE s id)).map (fun k:Nat=>(k:Int))
def bL (s:State) (id:Int):List Int:=if cH s id=true then mY s id s.threads.length else []
def gN (s:State) (n:Nat):Bool:=(BR n).all fun k=>!(cH s (k:Int) && !iA s (k:Int) && decide ((bL s (k:Int)).length=0))
def lI (s:State):Bool:=gN s s.threads.length
theorem Iz (s:State) (id:Int) (n:Nat):mY s id (n+1)=mY s id n ++ (if eE s id n=true then [(n:Int)] else []):=by
  unfold mY
  rw [List.range_succ,List.filter_append,List.map_append]
  cases h:eE s id n <;> simp [h]
theorem tG (s:State) (id:Int) (n:Nat):(mY s id n).length≤n:=by
  unfold mY
  rw [List.length_map]
  exact Nat.le_trans (List.length_filter_le ..) (by simp)
end Go.Sak
namespace Go.Sak
open Go Go.RowKit Go.Proofs
set_option linter.unusedVariables false
set_option linter.unusedSimpArgs false
set_option maxRecDepth 10000
set_option maxHeartbeats 8000000
def mT:AFn:=⟨7,(.seq (.reg [o1 2 (.mv (ci 0))]) (.seq (.reg [o1 3 (.mkmap),o2 (.mupd 3 (ci 3) (ci 3)),o2 (.mupd 3 (ci 4) (ci 2)),o2 (.mupd 3 (ci 6) (ci 1)),o1 4 (.mv 3),o1 5 (.mv 0),o1 6 (.lkp (.int .i64 0) false 4 5),o1 2 (.mv 6)]) .ret)),[(2,none)]⟩
theorem xR:xf Zi 182=some mT:=by kernel_rfl
theorem rF {pc:Int}:bO Zi 182 [.int .i64 pc] (.int .i64 (pH pc),[],[]):=by
  by_cases k3:pc=3
  · subst k3
    refine aG cD xR (by simp [mT]) fun hw _=>?_
    repeat' with_reducible first|refine aO (fun h=>?_) (fun h=>?_)|refine aT (fun h=>?_) (fun h=>?_)|refine aC (fun h=>?_) (fun h=>?_)|refine aH (fun h=>?_) (fun h=>?_)|refine aN ?_ ?_ ?_ ?_|refine aP ?_ ?_|refine aU ?_ ?_|refine bE ?_ ?_|refine L1 ?_ ?_|refine L2 ?_ ?_|refine L3 ?_ ?_ ?_ ?_|refine L4 ?_ ?_|refine L5 ?_ ?_ ?_ ?_ ?_|refine L6 ?_ ?_ ?_ ?_ ?_|simp -implicitDefEqProofs only [mT,qA,cK,bC,cM,aF,aL,qU,Zj,Zs,Zt,Zo,Zk,Zu,reduceIte,reduceCtorEq,qI,AE,AB,gV,fJ,fI,AV.isInt,fL,Blk.inN,Blk.nms,DG,DP,BC, *]
    all_goals first
      | rfl
      | (simp; done)
      | skip
  · by_cases k4:pc=4
    · subst k4
      refine aG cD xR (by simp [mT]) fun hw _=>?_
      repeat' with_reducible first|refine aO (fun h=>?_) (fun h=>?_)|refine aT (fun h=>?_) (fun h=>?_)|refine aC (fun h=>?_) (fun h=>?_)|refine aH (fun h=>?_) (fun h=>?_)|refine aN ?_ ?_ ?_ ?_|refine aP ?_ ?_|refine aU ?_ ?_|refine bE ?_ ?_|refine L1 ?_ ?_|refine L2 ?_ ?_|refine L3 ?_ ?_ ?_ ?_|refine L4 ?_ ?_|refine L5 ?_ ?_ ?_ ?_ ?_|refine L6 ?_ ?_ ?_ ?_ ?_|simp -implicitDefEqProofs only [mT,qA,cK,bC,cM,aF,aL,qU,Zj,Zs,Zt,Zo,Zk,Zu,reduceIte,reduceCtorEq,qI,AE,AB,gV,fJ,fI,AV.isInt,fL,Blk.inN,Blk.nms,DG,DP,BC, *]
      all_goals first
        | rfl
        | (simp; done)
        | skip
    · by_cases k6:pc=6
      · subst k6
        refine aG cD xR (by simp [mT]) fun hw _=>?_
        repeat' with_reducible first|refine aO (fun h=>?_) (fun h=>?_)|refine aT (fun h=>?_) (fun h=>?_)|refine aC (fun h=>?_) (fun h=>?_)|refine aH (fun h=>?_) (fun h=>?_)|refine aN ?_ ?_ ?_ ?_|refine aP ?_ ?_|refine aU ?_ ?_|refine bE ?_ ?_|refine L1 ?_ ?_|refine L2 ?_ ?_|refine L3 ?_ ?_ ?_ ?_|refine L4 ?_ ?_|refine L5 ?_ ?_ ?_ ?_ ?_|refine L6 ?_ ?_ ?_ ?_ ?_|simp -implicitDefEqProofs only [mT,qA,cK,bC,cM,aF,aL,qU,Zj,Zs,Zt,Zo,Zk,Zu,reduceIte,reduceCtorEq,qI,AE,AB,gV,fJ,fI,AV.isInt,fL,Blk.inN,Blk.nms,DG,DP,BC, *]
        all_goals first
          | rfl
          | (simp; done)
          | skip
      · have h3:(pc=3)=False:=by simp [k3]
        have h4:(pc=4)=False:=by simp [k4]
        have h6:(pc=6)=False:=by simp [k6]
        have h3s:(3=pc)=False:=by simp; omega
        have h4s:(4=pc)=False:=by simp; omega
        have h6s:(6=pc)=False:=by simp; omega
        rw [show pH pc=0 from by unfold pH; rw [if_neg k3,if_neg k4,if_neg k6]]
        refine aG cD xR (by simp [mT]) fun hw _=>?_
        repeat' with_reducible first|refine aO (fun h=>?_) (fun h=>?_)|refine aT (fun h=>?_) (fun h=>?_)|refine aC (fun h=>?_) (fun h=>?_)|refine aH (fun h=>?_) (fun h=>?_)|refine aN ?_ ?_ ?_ ?_|refine aP ?_ ?_|refine aU ?_ ?_|refine bE ?_ ?_|refine L1 ?_ ?_|refine L2 ?_ ?_|refine L3 ?_ ?_ ?_ ?_|refine L4 ?_ ?_|refine L5 ?_ ?_ ?_ ?_ ?_|refine L6 ?_ ?_ ?_ ?_ ?_|simp -implicitDefEqProofs only [mT,qA,cK,bC,cM,aF,aL,qU,Zj,Zs,Zt,Zo,Zk,Zu,reduceIte,reduceCtorEq,qI,AE,AB,gV,fJ,fI,AV.isInt,fL,Blk.inN,Blk.nms,DG,DP,BC,h3,h4,h6,h3s,h4s,h6s, *]
        all_goals first
          | (simp; done)
          | skip

def yI:AFn:=⟨9,(.seq (.reg [o1 2 (.mv (ci 0)),o1 3 (.mv (ci 0))]) (.seq (.seq (.reg [o1 4 (.mv 0)]) (.block 0 (.seq (.reg [o1 6 (.bin .eql 4 (ci 1)),o1 5 (.mv 6)]) (.cond 5 (.seq (.reg [o1 2 (.mv (ci 1)),o1 3 (.mv (ci 2))]) .ret) (.seq (.reg [o1 8 (.bin .eql 4 (ci 2)),o1 7 (.mv 8)]) (.cond 7 (.seq (.reg [o1 2 (.mv (ci 0)),o1 3 (.mv (ci 1))]) .ret) .skip)))))) (.seq (.reg [o1 2 (.mv (ci 0)),o1 3 (.mv (ci 0))]) .ret))),[(2,none),(3,none)]⟩
theorem Jp:xf Zi 181=some yI:=by kernel_rfl
theorem rE {pc:Int}  : bO Zi 181 [.int .i64 pc] ((.tup [.int .i64 ((nU pc).1),.int .i64 ((nU pc).2)]),[],[]):=by
  refine aG cD Jp (by simp [yI]) fun hw _=>?_
  simp only [eP,AV.wf,aD] at hw
  repeat' with_reducible first|refine aO (fun h=>?_) (fun h=>?_)|refine aT (fun h=>?_) (fun h=>?_)|refine aC (fun h=>?_) (fun h=>?_)|refine aH (fun h=>?_) (fun h=>?_)|refine aN ?_ ?_ ?_ ?_|refine aP ?_ ?_|refine aU ?_ ?_|refine bE ?_ ?_|simp -implicitDefEqProofs only [yI,qA,aZ,bJ,aF,aL,qU,Zj,Zs,Zt,Zo,Zk,Zu,reduceIte,reduceCtorEq, *]
  all_goals first
    | (simp; done)
    | exact aE
    | exact aE.symm
    | grind [aD,aR,aJ,nU]

def yH:AFn:=⟨64,(.seq (.reg [o1 2 (.box 42 0),o1 3 (.mv (ci 0))]) (.seq (.reg [o1 8 (.faddr 4 2),o1 9 (.ld 1 false 8),o1 10 (.call 181 [9]),o1 7 (.mv 10),o1 11 (.ext 7 0),o1 12 (.ext 7 1),o1 4 (.mv 11),o1 5 (.mv 12)]) (.seq (.seq (.reg [o1 13 (.faddr 1 2),o1 14 (.ld 1 false 13),o1 15 (.call 75 [14]),o1 6 (.mv 15)]) (.block 0 (.seq (.reg [o1 17 (.ld 1 false 1),o1 18 (.bin .eql 17 (ci 1)),o1 19 (.mv 18),o3 20 (.mv 6) 19,o3 21 (.bin .eql 20 (ci 2)) 19,o1 22 (.pick 19 21 (.const (.bool false))),o1 23 (.mv 22),o3 24 (.faddr 4 2) 23,o3 25 (.ld 1 false 24) 23,o3 26 (.call 182 [25]) 23,o3 27 (.bin .lss 26 (ci 3)) 23,o1 28 (.pick 23 27 (.const (.bool false))),o1 16 (.mv 28)]) (.cond 16 (.seq (.reg [o1 29 (.faddr 4 2),o1 30 (.ld 1 false 29),o1 31 (.call 182 [30]),o1 3 (.mv 31)]) .ret) (.seq (.reg [o1 33 (.ld 1 false 1),o1 34 (.bin .eql 33 (ci 2)),o1 35 (.mv 34),o3 36 (.mv 6) 35,o3 37 (.bin .eql 36 (ci 1)) 35,o1 38 (.pick 35 37 (.const (.bool false))),o1 39 (.mv 38),o3 40 (.faddr 4 2) 39,o3 41 (.ld 1 false 40) 39,o3 42 (.call 183 [41]) 39,o3 43 (.bin .lss 42 (ci 2)) 39,o1 44 (.pick 39 43 (.const (.bool false))),o1 32 (.mv 44)]) (.cond 32 (.seq (.reg [o1 45 (.faddr 4 2),o1 46 (.ld 1 false 45),o1 47 (.call 183 [46]),o1 3 (.mv 47)]) .ret) (.seq (.reg [o1 49 (.ld 1 false 1),o1 50 (.bin .eql 49 (ci 1)),o1 51 (.mv 50),o3 52 (.mv 6) 51,o3 53 (.bin .eql 52 (ci 3)) 51,o1 54 (.pick 51 53 (.const (.bool false))),o1 48 (.mv 54)]) (.cond 48 (.seq (.reg [o1 55 (.mv 4),o1 3 (.mv 55)]) .ret) (.seq (.reg [o1 57 (.ld 1 false 1),o1 58 (.bin .eql 57 (ci 2)),o1 59 (.mv 58),o3 60 (.mv 6) 59,o3 61 (.bin .eql 60 (ci 3)) 59,o1 62 (.pick 59 61 (.const (.bool false))),o1 56 (.mv 62)]) (.cond 56 (.seq (.reg [o1 63 (.mv 5),o1 3 (.mv 63)]) .ret) .skip)))))))))) (.seq (.reg [o1 3 (.mv (ci 0))]) .ret)))),[(3,none)]⟩
theorem Jo:xf Zi 180=some yH:=by kernel_rfl
theorem Bt {fB bY:Int} {dB cB:Int} {fA cZ:Int} {cA bN:Int} {bZ:Bool} {dA cY sd:Int}  : bO Zi 180 [.agg [.int .i64 fB,.int .i64 bY,.int .i64 dB,.int .i64 cB,.int .i64 fA,.int .i64 cZ,.int .i64 cA,.int .i64 bN,.bool bZ,.int .i64 dA,.int .i64 cY],.pv [.int .i64 sd]] ((.int .i64 (At sd (Thread.mk fB bY dB cB fA cZ cA bN bZ dA cY))),[],[]):=by
  refine aG cD Jo (by simp [yH]) fun hw _=>?_
  simp only [eP,AV.wf,aD] at hw
  repeat' with_reducible first|refine aO (fun h=>?_) (fun h=>?_)|refine aT (fun h=>?_) (fun h=>?_)|refine aC (fun h=>?_) (fun h=>?_)|refine aH (fun h=>?_) (fun h=>?_)|refine aN ?_ ?_ ?_ ?_|refine aP ?_ ?_|refine aU ?_ ?_|refine bE ?_ ?_|refine P0 (rE) ?_ ?_ ?_|refine ACV.of (rE) ?_ ?_ ?_|refine ACK.of (rE) ?_ ?_|refine P0 (cJ) ?_ ?_ ?_|refine ACV.of (cJ) ?_ ?_ ?_|refine ACK.of (cJ) ?_ ?_|refine P0 (rF) ?_ ?_ ?_|refine ACV.of (rF) ?_ ?_ ?_|refine ACK.of (rF) ?_ ?_|refine P0 (rG) ?_ ?_ ?_|refine ACV.of (rG) ?_ ?_ ?_|refine ACK.of (rG) ?_ ?_|simp -implicitDefEqProofs only [yH,qA,aZ,bJ,aF,aL,qU,Zj,Zs,Zt,Zo,Zk,Zu,reduceIte,reduceCtorEq,bC,bW, *]
  all_goals first
    | (simp; done)
    | exact aE
    | exact aE.symm
    | grind [aD,aR,aJ,At,nU,Og,xD]

def Kj:AFn:=⟨27,(.seq (.reg [o1 2 (.box 33 0),o1 4 (.mv (.const (.bool false)))]) (.seq (.reg [o1 5 (.ld 20 true 2),o1 6 (.call 18 [5]),o1 7 (.mv 6),o3 8 (.mv 1) 7,o3 9 (.bin .geq 8 (ci 0)) 7,o1 10 (.pick 7 9 (.const (.bool false))),o1 11 (.mv 10),o3 12 (.mv 1) 11,o3 13 (.faddr 18 2) 11,o3 14 (.ld 1 false 13) 11,o3 15 (.len 14) 11,o3 16 (.bin .lss 12 15) 11,o1 17 (.pick 11 16 (.const (.bool false))),o1 18 (.mv 17),o3 19 (.faddr 18 2) 18,o3 20 (.ld 1 false 19) 18,o3 21 (.mv 1) 18,o3 22 (.iaddr 11 20 21) 18,o3 23 (.faddr 0 22) 18,o3 24 (.ld 1 false 23) 18,o3 25 (.bin .eql 24 (ci 2)) 18,o1 26 (.pick 18 25 (.const (.bool false))),o1 4 (.mv 26)]) .ret)),[(4,none)]⟩
theorem Vl:xf Zi 73=some Kj:=by kernel_rfl
theorem gC {s:State} {id:Int} (hb:Bd s 100000000):bO Zi 73 [.agg (bQ s),.int .i64 id] (.bool (cH s id),[],[]):=by
  refine aG cD Vl (by simp [Kj]) fun hw _=>?_
  clear hw
  repeat' with_reducible first|refine aO (fun h=>?_) (fun h=>?_)|refine aT (fun h=>?_) (fun h=>?_)|refine aC (fun h=>?_) (fun h=>?_)|refine aH (fun h=>?_) (fun h=>?_)|refine FN ?_ ?_ ?_ ?_ rfl ?_|refine aP ?_ ?_|refine aU ?_ ?_|refine bE ?_ ?_|refine IA ?_ ?_ ?_|refine L1 ?_ ?_|refine L2 ?_ ?_|refine L3 ?_ ?_ ?_ ?_|refine L4 ?_ ?_|refine L5 ?_ ?_ ?_ ?_ ?_|refine L6 ?_ ?_ ?_ ?_ ?_|refine dR (d:=default) ?_ ?_|refine kZ (kR _ _ _) (by simp -implicitDefEqProofs only [m_get,Zk,reduceIte,if_true,if_false]; first|done|exact rfl) ?_ ?_ ?_ ?_|refine kZ (fO _ _ _ _ _ _ (by simp -implicitDefEqProofs only [m_get,Zk,reduceIte,if_true,if_false]; first|done|exact rfl) ?_) (by simp -implicitDefEqProofs only [m_get,Zk,reduceIte,if_true,if_false]; first|done|exact rfl) ?_ ?_ ?_ ?_|refine AC.p0 (kI ?_) ?_ (by simp -implicitDefEqProofs only [qU,pure_encZ]; done) ?_ ?_|simp -implicitDefEqProofs only [Kj,qA,cK,bC,cM,aF,aL,qU,Zj,Zs,Zt,Zo,Zk,Zu,reduceIte,reduceCtorEq,qI,AE,AB,iW,Zy,bW,qZ,qC,dY,iU,AD, *]
  all_goals first
    | omega
    | exact Wk.refl _
    | exact hb
    | (refine Wk.of_eq ?_; try simp only [decide_eq_true_eq,decide_eq_false_iff_not] at *
       unfold cH me; simp [*]; done)
    | (simp only [decide_eq_true_eq] at *; omega)
    | skip

def Ka:AFn:=⟨35,(.seq (.reg [o1 2 (.box 33 0),o1 4 (.mv (.const (.bool false)))]) (.seq (.seq (.reg [o1 7 (.ld 20 true 2),o1 8 (.mv 1),o1 9 (.call 73 [7,8]),o1 10 (.not 9)]) (.cond 10 (.seq (.reg [o1 4 (.mv (.const (.bool false)))]) .ret) .skip)) (.seq (.reg [o1 12 (.faddr 7 2),o1 13 (.ld 3 true 12),o1 14 (.faddr 10 2),o1 15 (.ld 1 false 14),o1 16 (.len 15),o1 17 (.call 74 [13,16]),o1 11 (.mv 17),o1 18 (.ext 11 0),o1 19 (.ext 11 1),o1 5 (.mv 18),o1 6 (.mv 19)]) (.seq (.seq (.reg [o1 20 (.faddr 18 2),o1 21 (.ld 1 false 20),o1 22 (.mv 1),o1 23 (.iaddr 11 21 22),o1 24 (.faddr 1 23),o1 25 (.ld 1 false 24),o1 26 (.call 75 [25])]) (.block 0 (.seq (.reg [o1 28 (.bin .eql 26 (ci 1)),o1 27 (.mv 28)]) (.cond 27 (.seq (.reg [o1 29 (.mv 5),o1 30 (.bin .eql 29 (ci 2)),o1 4 (.mv 30)]) .ret) (.seq (.reg [o1 32 (.bin .eql 26 (ci 2)),o1 31 (.mv 32)]) (.cond 31 (.seq (.reg [o1 33 (.mv 6),o1 34 (.bin .eql 33 (ci 4)),o1 4 (.mv 34)]) .ret) .skip)))))) (.seq (.reg [o1 4 (.mv (.const (.bool false)))]) .ret))))),[(4,none)]⟩
theorem Uz:xf Zi 34=some Ka:=by kernel_rfl
theorem jD {s:State} {id:Int} (hb:Bd s 100000000):bO Zi 34 [.agg (bQ s),.int .i64 id] (.bool (iA s id),[],[]):=by
  refine aG cD Uz (by simp [Ka]) fun hw _=>?_
  clear hw
  repeat' with_reducible first|refine aO (fun h=>?_) (fun h=>?_)|refine aT (fun h=>?_) (fun h=>?_)|refine aC (fun h=>?_) (fun h=>?_)|refine aH (fun h=>?_) (fun h=>?_)|refine FN ?_ ?_ ?_ ?_ rfl ?_|refine aP ?_ ?_|refine aU ?_ ?_|refine bE ?_ ?_|refine IA ?_ ?_ ?_|refine L1 ?_ ?_|refine L2 ?_ ?_|refine L3 ?_ ?_ ?_ ?_|refine L4 ?_ ?_|refine L5 ?_ ?_ ?_ ?_ ?_|refine L6 ?_ ?_ ?_ ?_ ?_|refine dR (d:=default) ?_ ?_|refine kZ (kR _ _ _) (by simp -implicitDefEqProofs only [m_get,Zk,reduceIte,if_true,if_false]; first|done|exact rfl) ?_ ?_ ?_ ?_|refine kZ (fO _ _ _ _ _ _ (by simp -implicitDefEqProofs only [m_get,Zk,reduceIte,if_true,if_false]; first|done|exact rfl) ?_) (by simp -implicitDefEqProofs only [m_get,Zk,reduceIte,if_true,if_false]; first|done|exact rfl) ?_ ?_ ?_ ?_|refine AC.p0 (gC ?_) ?_ (by simp -implicitDefEqProofs only [qU,pure_encZ]; done) ?_ ?_|refine P0 (vL) ?_ ?_ ?_|refine ACV.of (vL) ?_ ?_ ?_|refine ACK.of (vL) ?_ ?_|refine P0 (cJ) ?_ ?_ ?_|refine ACV.of (cJ) ?_ ?_ ?_|refine ACK.of (cJ) ?_ ?_|simp -implicitDefEqProofs only [Ka,qA,cK,bC,cM,aF,aL,qU,Zj,Zs,Zt,Zo,Zk,Zu,reduceIte,reduceCtorEq,qI,AE,AB,iW,Zy,bW,qZ,qC,dY,iU,AD, *]
  all_goals first
    | omega
    | exact Wk.refl _
    | exact hb
    | (refine Wk.of_eq ?_
       try simp only [decide_eq_true_eq,decide_eq_false_iff_not] at *
       unfold iA me
       simp only [*,Bool.true_and,Bool.false_and,if_true,if_false,reduceIte,BC]
       first | done | rfl)
    | (have h9:cH s id=true:=by assumption
       simp only [cH,Bool.and_eq_true,decide_eq_true_eq] at h9; omega)
    | skip

end Go.Sak
