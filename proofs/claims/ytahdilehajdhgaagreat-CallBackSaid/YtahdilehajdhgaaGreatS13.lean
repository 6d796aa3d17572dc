/- Part S13 of the proofs about the program: K5, K6, K7. Conditions: none. -/
import Derived.Test.YtahdilehajdhgaaGreatS12
import Derived.Test.YtahdilehajdhgaaGreatS04
import Derived.Test.YtahdilehajdhgaaGreatProg
import Derived.KernelRfl
namespace Go.Sak
open Go Go.RowKit Go.Proofs
set_option linter.unusedVariables false
set_option linter.unusedSimpArgs false
set_option maxRecDepth 10000
set_option maxHeartbeats 8000000
theorem con129n:Con Tryz.prog 129 [.slnil] (.slnil,[],[]):=by
  refine mcb_of_vc mix x129 (by simp [F129]) fun hw _=>?_
  repeat' with_reducible first|refine gTn_of (fun h=>?_) (fun h=>?_)|refine gT_of (fun h=>?_) (fun h=>?_)|refine caseTn_of (fun h=>?_) (fun h=>?_)|refine caseT_of (fun h=>?_) (fun h=>?_)|refine fin_pure ?_ ?_ ?_ ?_|refine kv_ifn ?_ ?_|refine kv_if ?_ ?_|refine k_if ?_ ?_|simp -implicitDefEqProofs only [F129,qA,doLd,doSt,splice,doEqs,qU,List.reduceReplicate,Nat.reduceAdd,Nat.reduceSub,Nat.reduceLeDiff,Nat.reduceEqDiff,Nat.reduceMul,reduceIte,reduceCtorEq,en_nil,en_sle,en_cons,ng_f,ng_t,doBslice, *]
  all_goals (simp; done)
theorem con129e:Con Tryz.prog 129 [.sle 1] (.slm 1 0,[(1,some (.rows 3 1 []))],[]):=by
  refine mcb_of_vc mix x129 (by simp [F129]) fun hw _=>?_
  repeat' with_reducible first|refine gTn_of (fun h=>?_) (fun h=>?_)|refine gT_of (fun h=>?_) (fun h=>?_)|refine caseTn_of (fun h=>?_) (fun h=>?_)|refine caseT_of (fun h=>?_) (fun h=>?_)|refine fin_new1 [(81,1)] ?_ ?_ ?_|refine kv_ifn ?_ ?_|refine kv_if ?_ ?_|refine k_if ?_ ?_|simp -implicitDefEqProofs only [F129,qA,doLd,doSt,splice,doEqs,qU,List.reduceReplicate,Nat.reduceAdd,Nat.reduceSub,Nat.reduceLeDiff,Nat.reduceEqDiff,Nat.reduceMul,reduceIte,reduceCtorEq,en_nil,en_sle,en_cons,ng_f,ng_t,doBslice, *]
  all_goals first
    | (simp; done)
    | (simp [stOk,stM,stT,nameT,lk,AV.tr,Blk.tr,trss,trss_enc _ pure_encI,trs_pure _ _ (pure_encI _),AM.upd,AM.rep]; done)
    | (simp at hl ⊢; omega)
theorem con129f {x:Int} {l:List Int} (hl:(x :: l).length≤1000000000):Con Tryz.prog 129 [.slv 1 (encI x :: l.map encI)] (.slm 1 (l.length+1),[(1,some (.rows 3 1 (encI x :: l.map encI)))],[]):=by
  refine mcb_of_vc mix x129 (by simp [F129]) fun hw _=>?_
  repeat' with_reducible first|refine gTn_of (fun h=>?_) (fun h=>?_)|refine gT_of (fun h=>?_) (fun h=>?_)|refine caseTn_of (fun h=>?_) (fun h=>?_)|refine caseT_of (fun h=>?_) (fun h=>?_)|refine fin_new1 [(81,1)] ?_ ?_ ?_|refine kv_ifn ?_ ?_|refine kv_if ?_ ?_|refine k_if ?_ ?_|simp -implicitDefEqProofs only [F129,qA,doLd,doSt,splice,doEqs,qU,List.reduceReplicate,Nat.reduceAdd,Nat.reduceSub,Nat.reduceLeDiff,Nat.reduceEqDiff,Nat.reduceMul,reduceIte,reduceCtorEq,en_nil,en_sle,en_cons,ng_f,ng_t,doBslice, *]
  all_goals first
    | (simp; done)
    | (simp [stOk,stM,stT,nameT,lk,AV.tr,Blk.tr,trss,trss_enc _ pure_encI,trs_pure _ _ (pure_encI _),AM.upd,AM.rep]; done)
    | (simp at hl ⊢; omega)
theorem con129g {l:List Int} (hne:l≠[]) (hl:l.length≤1000000000):Con Tryz.prog 129 [.slv 1 (l.map encI)] (.slm 1 l.length,[(1,some (.rows 3 1 (l.map encI)))],[]):=by
  cases l with
  | nil=>exact absurd rfl hne
  | cons x l=>exact con129f hl

theorem con130f {x:Thread} {l:List Thread} (hl:(x :: l).length≤1000000000):Con Tryz.prog 130 [.slv 11 (encT x :: l.map encT)] (.slm 1 (l.length+1),[(1,some (.rows 42 11 (encT x :: l.map encT)))],[]):=by
  refine mcb_of_vc mix x130 (by simp [F130]) fun hw _=>?_
  repeat' with_reducible first|refine gTn_of (fun h=>?_) (fun h=>?_)|refine gT_of (fun h=>?_) (fun h=>?_)|refine caseTn_of (fun h=>?_) (fun h=>?_)|refine caseT_of (fun h=>?_) (fun h=>?_)|refine fin_new1 [(81,1)] ?_ ?_ ?_|refine kv_ifn ?_ ?_|refine kv_if ?_ ?_|refine k_if ?_ ?_|simp -implicitDefEqProofs only [F130,qA,doLd,doSt,splice,doEqs,qU,List.reduceReplicate,Nat.reduceAdd,Nat.reduceSub,Nat.reduceLeDiff,Nat.reduceEqDiff,Nat.reduceMul,reduceIte,reduceCtorEq,en_nil,en_sle,en_cons,ng_f,ng_t,doBslice, *]
  all_goals first
    | (simp; done)
    | (simp [stOk,stM,stT,nameT,lk,AV.tr,Blk.tr,trss,trss_enc _ pure_encT,trs_pure _ _ (pure_encT _),AM.upd,AM.rep]; done)
    | (simp at hl ⊢; omega)
theorem con130g {l:List Thread} (hne:l≠[]) (hl:l.length≤1000000000):Con Tryz.prog 130 [.slv 11 (l.map encT)] (.slm 1 l.length,[(1,some (.rows 42 11 (l.map encT)))],[]):=by
  cases l with
  | nil=>exact absurd rfl hne
  | cons x l=>exact con130f hl

def F245:AFn:=⟨28,(.seq (.reg [o1 4 (.mv (.const .slnil)),o1 5 (.mv (ci 0))]) (.seq (.reg [o1 7 (.mv 0),o1 8 (.call 129 [7]),o1 6 (.mv 8)]) (.seq (.block 0 (.seq (.seq (.reg [o1 10 (.mv 0),o1 11 (.call 100 [10]),o1 12 (.not 11),o1 9 (.mv 12)]) (.cond 9 .skip (.reg [o1 13 (.mv 1),o1 14 (.bslice 3 1 1 [13]),o1 15 (.call 100 [14]),o1 16 (.not 15),o1 9 (.mv 16)]))) (.cond 9 (.seq (.reg [o1 17 (.mv 6),o1 4 (.mv 17),o1 5 (.mv (ci 40))]) .ret) (.seq (.reg [o1 19 (.mv 0),o1 20 (.mv 1),o1 21 (.call 137 [19,20]),o1 22 (.bin .geq 21 (ci 0)),o1 18 (.mv 22)]) (.cond 18 (.seq (.reg [o1 23 (.mv 6),o1 4 (.mv 23),o1 5 (.mv (ci 60))]) .ret) .skip))))) (.seq (.reg [o1 24 (.mv 6),o1 25 (.mv 1),o1 26 (.bslice 3 1 1 [25]),o1 27 (.app 3 1 8 24 26),o1 4 (.mv 27),o1 5 (.mv (ci 0))]) .ret)))),[(4,none),(5,none)]⟩
theorem x245:xf Tryz.prog 245=some F245:=by kernel_rfl
def F53:AFn:=⟨38,(.seq (.reg [o1 2 (.mv (.const (.bool false)))]) (.seq (.seq (.reg [o1 5 (.mv 0),o1 6 (.len 5),o1 7 (.mv (ci 0))]) (.block 0 (.loop (.seq (.reg [o1 8 (.bin .lss 7 6)]) (.seq (.cond 8 .skip (.exit 0)) (.seq (.block 1 (.seq (.reg [o1 9 (.mv 7),o1 10 (.iaddr 2 5 7),o1 11 (.ld 2 true 10),o1 4 (.alloc 107 [(.int .i64 0),(.int .i64 0)]),o1 3 (.mv 9),o2 (.st 2 4 11)]) (.seq (.reg [o1 12 (.faddr 0 4),o1 13 (.ld 1 false 12),o1 14 (.bin .lss 13 (ci 0)),o1 15 (.mv 14),o4 16 (.faddr 0 4) 15,o4 17 (.ld 1 false 16) 15,o4 18 (.bin .gtr 17 (ci 2199023255552)) 15,o1 19 (.pick 15 (.const (.bool true)) 18),o1 20 (.mv 19),o4 21 (.faddr 0 4) 20,o4 22 (.ld 1 false 21) 20,o4 23 (.mv 0) 20,o4 24 (.len 23) 20,o4 25 (.call 98 [22,24]) 20,o4 26 (.mv 3) 20,o4 27 (.bin .neq 25 26) 20,o1 28 (.pick 20 (.const (.bool true)) 27)]) (.cond 28 (.seq (.reg [o1 2 (.mv (.const (.bool false)))]) .ret) .skip)))) (.reg [o1 29 (.bin .add 7 (ci 1)),o1 7 (.mv 29)]))))))) (.seq (.reg [o1 30 (.mv 0),o1 31 (.len 30),o1 32 (.bin .geq 31 (ci 1)),o1 33 (.mv 32),o3 34 (.mv 0) 33,o3 35 (.len 34) 33,o3 36 (.bin .leq 35 (ci 64)) 33,o1 37 (.pick 33 36 (.const (.bool false))),o1 2 (.mv 37)]) .ret))),[(2,none)]⟩
theorem x53:xf Tryz.prog 53=some F53:=by kernel_rfl
theorem con53 {l:List Slot} (hl:l.length≤1000000000):Con Tryz.prog 53 [.slv 2 (l.map encS)] (.bool (slotCheck l),[],[]):=by
  refine mcb_of_vc mix x53 (by simp [F53]) fun hw _=>?_
  simp only [wfs,AV.wf,inR_i64,List.length_map] at hw
  simp -implicitDefEqProofs only [F53,qA,doLd,doSt,splice,doEqs,qU,List.reduceReplicate,Nat.reduceAdd,Nat.reduceSub,Nat.reduceLeDiff,Nat.reduceEqDiff,Nat.reduceMul,reduceIte,reduceCtorEq,len_encS,take_encS,encS,Int.toNat_natCast,Int.natCast_zero]
  refine ls_of (fun i:Nat=>[some (.slv 2 (l.map encS)),none,none,none,none,some (.slv 2 (l.map encS)),some (.int .i64 l.length),some (.int .i64 i),none,none,none,none,none,none,none,none,none,none,none,none,none,none,none,none,none,none,none,none,none,none,none,none,none,none,none,none,none,none]) (fun i=>i≤l.length∧∀ j,j<i→slotOk l j=true) (fun i=>l.length - i) 0 ?_ ?_ ?_ ?_ ?_
  rotate_right
  · intro i hJ
    simp only [all_some,all_none,all_nil]
    intros
    repeat' with_reducible first|refine gTn_of (fun h=>?_) (fun h=>?_)|refine gT_of (fun h=>?_) (fun h=>?_)|refine caseTn_of (fun h=>?_) (fun h=>?_)|refine caseT_of (fun h=>?_) (fun h=>?_)|refine fin_pure ?_ ?_ ?_ ?_|refine kv_ifn ?_ ?_|refine kv_if ?_ ?_|refine k_if ?_ ?_|refine ia_of (d:=default) ?_ ?_|refine rs_of (i+1) ?_ ?_ ?_ ?_ ?_|refine P0 (con98) ?_ ?_ ?_|refine ACV.of (con98) ?_ ?_ ?_|refine ACK.of (con98) ?_ ?_|simp -implicitDefEqProofs only [F53,qA,doLd,doSt,splice,doEqs,qU,List.reduceReplicate,Nat.reduceAdd,Nat.reduceSub,Nat.reduceLeDiff,Nat.reduceEqDiff,Nat.reduceMul,reduceIte,reduceCtorEq,len_encS,take_encS,encS,Int.toNat_natCast,Int.natCast_zero, *]
    all_goals first
    | (simp; done)
    | (rw [slotCheck,rall_f (i:=i) (by grind) (by grind [slotOk])]; simp; done)
    | (rw [slotCheck,rall_t (by grind)]; grind)
    | grind [inR_i64,wrap64,maxLen_eq,getD_mem,slotOk]
  all_goals first
    | (simp; done)
    | (simp -implicitDefEqProofs only [F53,qA,doLd,doSt,splice,doEqs,qU,List.reduceReplicate,Nat.reduceAdd,Nat.reduceSub,Nat.reduceLeDiff,Nat.reduceEqDiff,Nat.reduceMul,reduceIte,reduceCtorEq,len_encS,take_encS,encS,Int.toNat_natCast,Int.natCast_zero]; done)
    | (rw [slotCheck,rall_f (i:=i) (by grind) (by grind [slotOk])]; simp; done)
    | (rw [slotCheck,rall_t (by grind)]; grind)
    | grind [inR_i64,wrap64,maxLen_eq,getD_mem,slotOk]

def F295:AFn:=⟨23,(.seq (.reg [o1 4 (.mv (.const (.bool false)))]) (.seq (.reg [o1 5 (.mv 1),o1 6 (.bin .geq 5 (ci 0)),o1 7 (.mv 6),o3 8 (.mv 0) 7,o3 9 (.call 53 [8]) 7,o1 10 (.pick 7 9 (.const (.bool false))),o1 11 (.mv 10),o3 12 (.mv 0) 11,o3 13 (.mv 1) 11,o3 14 (.mv 0) 11,o3 15 (.len 14) 11,o3 16 (.call 98 [13,15]) 11,o3 17 (.iaddr 2 12 16) 11,o3 18 (.faddr 0 17) 11,o3 19 (.ld 1 false 18) 11,o3 20 (.mv 1) 11,o3 21 (.bin .eql 19 20) 11,o1 22 (.pick 11 21 (.const (.bool false))),o1 4 (.mv 22)]) .ret)),[(4,none)]⟩
theorem x295:xf Tryz.prog 295=some F295:=by kernel_rfl
def F297:AFn:=⟨21,(.seq (.reg [o1 2 (.mv (ci 0)),o1 3 (.mv (.const .slnil)),o1 4 (.mv (.const (.bool false)))]) (.seq (.seq (.reg [o1 5 (.mv 0),o1 6 (.call 100 [5]),o1 7 (.not 6),o1 8 (.mv 7),o4 9 (.mv 0) 8,o4 10 (.len 9) 8,o4 11 (.bin .eql 10 (ci 0)) 8,o1 12 (.pick 8 (.const (.bool true)) 11)]) (.cond 12 (.seq (.reg [o1 13 (.mv 0),o1 14 (.call 129 [13]),o1 2 (.mv (ci 0)),o1 3 (.mv 14),o1 4 (.mv (.const (.bool false)))]) .ret) .skip)) (.seq (.regT [o1 15 (.mv 0),o1 16 (.iaddr 1 15 (ci 0)),o1 17 (.ld 1 false 16),o1 18 (.mv 0),o1 19 (.slc 1 18 (some (ci 1)) none),o1 20 (.call 129 [19]),o1 2 (.mv 17),o1 3 (.mv 20),o1 4 (.mv (.const (.bool true)))] [(1,4),(2,4),(1,5),(2,5)]) .ret))),[(2,none),(3,none),(4,none)]⟩
theorem x297:xf Tryz.prog 297=some F297:=by kernel_rfl
def F55:AFn:=⟨16,(.seq (.reg [o1 1 (.box 29 0),o1 2 (.mv (.const (.bool false)))]) (.seq (.reg [o1 3 (.faddr 0 1),o1 4 (.ld 1 false 3),o1 5 (.bin .geq 4 (ci 0)),o1 6 (.mv 5),o3 7 (.faddr 0 1) 6,o3 8 (.ld 1 false 7) 6,o3 9 (.bin .leq 8 (ci 1099511627776)) 6,o1 10 (.pick 6 9 (.const (.bool false))),o1 11 (.mv 10),o3 12 (.faddr 1 1) 11,o3 13 (.ld 1 false 12) 11,o3 14 (.call 100 [13]) 11,o1 15 (.pick 11 14 (.const (.bool false))),o1 2 (.mv 15)]) .ret)),[(2,none)]⟩
theorem x55:xf Tryz.prog 55=some F55:=by kernel_rfl
theorem con55 {e_ep:Int} {e_ln:List Int} (hl:e_ln.length≤100000000):Con Tryz.prog 55 [.agg [.int .i64 e_ep,.slv 1 (e_ln.map encI)]] ((.bool (vCheck (Event.mk e_ep e_ln))),[],[]):=by
  refine mcb_of_vc mix x55 (by simp [F55]) fun hw _=>?_
  simp only [wfs,AV.wf,inR_i64] at hw
  repeat' with_reducible first|refine gTn_of (fun h=>?_) (fun h=>?_)|refine gT_of (fun h=>?_) (fun h=>?_)|refine caseTn_of (fun h=>?_) (fun h=>?_)|refine caseT_of (fun h=>?_) (fun h=>?_)|refine fin_pure ?_ ?_ ?_ ?_|refine kv_ifn ?_ ?_|refine kv_if ?_ ?_|refine k_if ?_ ?_|refine P0 (con100 ?_) ?_ ?_ ?_|refine ACV.of (con100 ?_) ?_ ?_ ?_|refine ACK.of (con100 ?_) ?_ ?_|simp -implicitDefEqProofs only [F55,qA,doLd,doSt,splice,doEqs,qU,List.reduceReplicate,Nat.reduceAdd,Nat.reduceSub,Nat.reduceLeDiff,Nat.reduceEqDiff,Nat.reduceMul,reduceIte,reduceCtorEq, *]
  all_goals first
    | (simp; done)
    | exact idxF_any
    | exact idxF_any.symm
    | grind [inR_i64,wrap64,maxLen_eq,vCheck]

def F90:AFn:=⟨9,(.seq (.reg [o1 1 (.box 29 0),o1 2 (.alloc 29 [(.int .i64 0),.slnil])]) (.seq (.regT [o1 3 (.faddr 0 1),o1 4 (.ld 1 false 3),o1 5 (.faddr 1 1),o1 6 (.ld 1 false 5),o1 7 (.call 129 [6]),o1 8 (.build [(.int .i64 0),.slnil] [(0,1,4),(1,1,7)]),o2 (.st 2 2 8)] [(0,2),(1,2),(0,3),(1,3),(0,4),(1,4)]) .ret)),[(2,some (2,true))]⟩
theorem x90:xf Tryz.prog 90=some F90:=by kernel_rfl
theorem con90 {e_ep:Int} {e_ln:List Int} (hl:e_ln.length≤100000000):Con Tryz.prog 90 [.agg [.int .i64 e_ep,.slv 1 (e_ln.map encI)]] ((.agg (encV ((Event.mk e_ep e_ln)))),[],[]):=by
  refine mcb_of_vc mix x90 (by simp [F90]) fun hw _=>?_
  simp only [wfs,AV.wf,inR_i64] at hw
  repeat' with_reducible first|refine gTn_of (fun h=>?_) (fun h=>?_)|refine gT_of (fun h=>?_) (fun h=>?_)|refine caseTn_of (fun h=>?_) (fun h=>?_)|refine caseT_of (fun h=>?_) (fun h=>?_)|refine fin_pure ?_ ?_ ?_ ?_|refine kv_ifn ?_ ?_|refine kv_if ?_ ?_|refine k_if ?_ ?_|refine P0 (con129 ?_) ?_ ?_ ?_|refine ACV.of (con129 ?_) ?_ ?_ ?_|refine ACK.of (con129 ?_) ?_ ?_|simp -implicitDefEqProofs only [F90,qA,doLd,doSt,splice,doEqs,qU,List.reduceReplicate,Nat.reduceAdd,Nat.reduceSub,Nat.reduceLeDiff,Nat.reduceEqDiff,Nat.reduceMul,reduceIte,reduceCtorEq,encV, *]
  all_goals first
    | (simp; done)
    | exact idxF_any
    | exact idxF_any.symm
    | grind [inR_i64,wrap64,maxLen_eq]

def F254:AFn:=⟨8,(.seq (.reg [o1 1 (.box 29 0),o1 2 (.mv (ci 0))]) (.seq (.seq (.reg [o1 3 (.ld 2 true 1),o1 4 (.call 55 [3]),o1 5 (.not 4)]) (.cond 5 (.seq (.reg [o1 2 (.mv (ci (-1)))]) .ret) .skip)) (.seq (.reg [o1 6 (.faddr 0 1),o1 7 (.ld 1 false 6),o1 2 (.mv 7)]) .ret))),[(2,none)]⟩
theorem x254:xf Tryz.prog 254=some F254:=by kernel_rfl
def F256:AFn:=⟨38,(.seq (.reg [o1 3 (.box 29 0),o1 6 (.alloc 29 [(.int .i64 0),.slnil]),o1 7 (.mv (.const (.bool false))),o1 8 (.mv (ci 0))]) (.seq (.seq (.reg [o1 11 (.ld 2 true 3),o1 12 (.call 55 [11]),o1 13 (.not 12)]) (.cond 13 (.seq (.reg [o1 14 (.ld 2 true 3),o1 15 (.call 90 [14]),o2 (.st 2 6 15),o1 7 (.mv (.const (.bool false))),o1 8 (.mv (ci 40))]) .ret) .skip)) (.seq (.reg [o1 17 (.faddr 1 3),o1 18 (.ld 1 false 17),o1 19 (.mv 2),o1 20 (.call 245 [18,19]),o1 16 (.mv 20),o1 21 (.ext 16 0),o1 22 (.ext 16 1),o1 9 (.mv 21),o1 10 (.mv 22)]) (.seq (.seq (.reg [o1 23 (.mv 10),o1 24 (.bin .neq 23 (ci 0)),o1 25 (.mv 24),o4 26 (.faddr 0 3) 25,o4 27 (.ld 1 false 26) 25,o4 28 (.mv 1) 25,o4 29 (.bin .neq 27 28) 25,o1 30 (.pick 25 (.const (.bool true)) 29)]) (.cond 30 (.seq (.reg [o1 31 (.ld 2 true 3),o1 32 (.call 90 [31]),o1 33 (.mv 10),o2 (.st 2 6 32),o1 7 (.mv (.const (.bool false))),o1 8 (.mv 33)]) .ret) .skip)) (.seq (.reg [o1 34 (.faddr 0 3),o1 35 (.ld 1 false 34),o1 36 (.mv 9),o1 37 (.build [(.int .i64 0),.slnil] [(0,1,35),(1,1,36)]),o2 (.st 2 6 37),o1 7 (.mv (.const (.bool true))),o1 8 (.mv (ci 0))]) .ret))))),[(6,some (2,true)),(7,none),(8,none)]⟩
theorem x256:xf Tryz.prog 256=some F256:=by kernel_rfl
end Go.Sak
