/- Part S13 of the proofs about the program: K5, K6, K7. Conditions: none. -/
import Derived.Test.YtccdhjhffebpoaaGreatS12
import Derived.Test.YtccdhjhffebpoaaGreatS04
import Derived.Test.YtccdhjhffebpoaaGreatProg
import Derived.KernelRfl
namespace Go.Sak
open Go Go.RowKit Go.Proofs
set_option linter.unusedVariables false
set_option linter.unusedSimpArgs false
set_option maxRecDepth 10000
set_option maxHeartbeats 8000000
theorem con225n:Con Tryz.prog 225 [.slnil] (.slnil,[],[]):=by
  refine mcb_of_vc mix x225 (by simp [F225]) fun hw _=>?_
  repeat' with_reducible first|refine gTn_of (fun h=>?_) (fun h=>?_)|refine gT_of (fun h=>?_) (fun h=>?_)|refine caseTn_of (fun h=>?_) (fun h=>?_)|refine caseT_of (fun h=>?_) (fun h=>?_)|refine fin_pure ?_ ?_ ?_ ?_|refine kv_ifn ?_ ?_|refine kv_if ?_ ?_|refine k_if ?_ ?_|simp -implicitDefEqProofs only [F225,qA,doLd,doSt,splice,doEqs,qU,List.reduceReplicate,Nat.reduceAdd,Nat.reduceSub,Nat.reduceLeDiff,Nat.reduceEqDiff,Nat.reduceMul,reduceIte,reduceCtorEq,en_nil,en_sle,en_cons,ng_f,ng_t,doBslice, *]
  all_goals (simp; done)
theorem con225e:Con Tryz.prog 225 [.sle 1] (.slm 1 0,[(1,some (.rows 3 1 []))],[]):=by
  refine mcb_of_vc mix x225 (by simp [F225]) fun hw _=>?_
  repeat' with_reducible first|refine gTn_of (fun h=>?_) (fun h=>?_)|refine gT_of (fun h=>?_) (fun h=>?_)|refine caseTn_of (fun h=>?_) (fun h=>?_)|refine caseT_of (fun h=>?_) (fun h=>?_)|refine fin_new1 [(81,1)] ?_ ?_ ?_|refine kv_ifn ?_ ?_|refine kv_if ?_ ?_|refine k_if ?_ ?_|simp -implicitDefEqProofs only [F225,qA,doLd,doSt,splice,doEqs,qU,List.reduceReplicate,Nat.reduceAdd,Nat.reduceSub,Nat.reduceLeDiff,Nat.reduceEqDiff,Nat.reduceMul,reduceIte,reduceCtorEq,en_nil,en_sle,en_cons,ng_f,ng_t,doBslice, *]
  all_goals first
    | (simp; done)
    | (simp [stOk,stM,stT,nameT,lk,AV.tr,Blk.tr,trss,trss_enc _ pure_encI,trs_pure _ _ (pure_encI _),AM.upd,AM.rep]; done)
    | (simp at hl ⊢; omega)
theorem con225f {x:Int} {l:List Int} (hl:(x :: l).length≤1000000000):Con Tryz.prog 225 [.slv 1 (encI x :: l.map encI)] (.slm 1 (l.length+1),[(1,some (.rows 3 1 (encI x :: l.map encI)))],[]):=by
  refine mcb_of_vc mix x225 (by simp [F225]) fun hw _=>?_
  repeat' with_reducible first|refine gTn_of (fun h=>?_) (fun h=>?_)|refine gT_of (fun h=>?_) (fun h=>?_)|refine caseTn_of (fun h=>?_) (fun h=>?_)|refine caseT_of (fun h=>?_) (fun h=>?_)|refine fin_new1 [(81,1)] ?_ ?_ ?_|refine kv_ifn ?_ ?_|refine kv_if ?_ ?_|refine k_if ?_ ?_|simp -implicitDefEqProofs only [F225,qA,doLd,doSt,splice,doEqs,qU,List.reduceReplicate,Nat.reduceAdd,Nat.reduceSub,Nat.reduceLeDiff,Nat.reduceEqDiff,Nat.reduceMul,reduceIte,reduceCtorEq,en_nil,en_sle,en_cons,ng_f,ng_t,doBslice, *]
  all_goals first
    | (simp; done)
    | (simp [stOk,stM,stT,nameT,lk,AV.tr,Blk.tr,trss,trss_enc _ pure_encI,trs_pure _ _ (pure_encI _),AM.upd,AM.rep]; done)
    | (simp at hl ⊢; omega)
theorem con225g {l:List Int} (hne:l≠[]) (hl:l.length≤1000000000):Con Tryz.prog 225 [.slv 1 (l.map encI)] (.slm 1 l.length,[(1,some (.rows 3 1 (l.map encI)))],[]):=by
  cases l with
  | nil=>exact absurd rfl hne
  | cons x l=>exact con225f hl

theorem con226f {x:Thread} {l:List Thread} (hl:(x :: l).length≤1000000000):Con Tryz.prog 226 [.slv 11 (encT x :: l.map encT)] (.slm 1 (l.length+1),[(1,some (.rows 48 11 (encT x :: l.map encT)))],[]):=by
  refine mcb_of_vc mix x226 (by simp [F226]) fun hw _=>?_
  repeat' with_reducible first|refine gTn_of (fun h=>?_) (fun h=>?_)|refine gT_of (fun h=>?_) (fun h=>?_)|refine caseTn_of (fun h=>?_) (fun h=>?_)|refine caseT_of (fun h=>?_) (fun h=>?_)|refine fin_new1 [(81,1)] ?_ ?_ ?_|refine kv_ifn ?_ ?_|refine kv_if ?_ ?_|refine k_if ?_ ?_|simp -implicitDefEqProofs only [F226,qA,doLd,doSt,splice,doEqs,qU,List.reduceReplicate,Nat.reduceAdd,Nat.reduceSub,Nat.reduceLeDiff,Nat.reduceEqDiff,Nat.reduceMul,reduceIte,reduceCtorEq,en_nil,en_sle,en_cons,ng_f,ng_t,doBslice, *]
  all_goals first
    | (simp; done)
    | (simp [stOk,stM,stT,nameT,lk,AV.tr,Blk.tr,trss,trss_enc _ pure_encT,trs_pure _ _ (pure_encT _),AM.upd,AM.rep]; done)
    | (simp at hl ⊢; omega)
theorem con226g {l:List Thread} (hne:l≠[]) (hl:l.length≤1000000000):Con Tryz.prog 226 [.slv 11 (l.map encT)] (.slm 1 l.length,[(1,some (.rows 48 11 (l.map encT)))],[]):=by
  cases l with
  | nil=>exact absurd rfl hne
  | cons x l=>exact con226f hl

theorem con227n:Con Tryz.prog 227 [.slnil] (.slnil,[],[]):=by
  refine mcb_of_vc mix x227 (by simp [F227]) fun hw _=>?_
  repeat' with_reducible first|refine gTn_of (fun h=>?_) (fun h=>?_)|refine gT_of (fun h=>?_) (fun h=>?_)|refine caseTn_of (fun h=>?_) (fun h=>?_)|refine caseT_of (fun h=>?_) (fun h=>?_)|refine fin_pure ?_ ?_ ?_ ?_|refine kv_ifn ?_ ?_|refine kv_if ?_ ?_|refine k_if ?_ ?_|simp -implicitDefEqProofs only [F227,qA,doLd,doSt,splice,doEqs,qU,List.reduceReplicate,Nat.reduceAdd,Nat.reduceSub,Nat.reduceLeDiff,Nat.reduceEqDiff,Nat.reduceMul,reduceIte,reduceCtorEq,en_nil,en_sle,en_cons,ng_f,ng_t,doBslice, *]
  all_goals (simp; done)
theorem con227e:Con Tryz.prog 227 [.sle 5] (.slm 1 0,[(1,some (.rows 79 5 []))],[]):=by
  refine mcb_of_vc mix x227 (by simp [F227]) fun hw _=>?_
  repeat' with_reducible first|refine gTn_of (fun h=>?_) (fun h=>?_)|refine gT_of (fun h=>?_) (fun h=>?_)|refine caseTn_of (fun h=>?_) (fun h=>?_)|refine caseT_of (fun h=>?_) (fun h=>?_)|refine fin_new1 [(81,1)] ?_ ?_ ?_|refine kv_ifn ?_ ?_|refine kv_if ?_ ?_|refine k_if ?_ ?_|simp -implicitDefEqProofs only [F227,qA,doLd,doSt,splice,doEqs,qU,List.reduceReplicate,Nat.reduceAdd,Nat.reduceSub,Nat.reduceLeDiff,Nat.reduceEqDiff,Nat.reduceMul,reduceIte,reduceCtorEq,en_nil,en_sle,en_cons,ng_f,ng_t,doBslice, *]
  all_goals first
    | (simp; done)
    | (simp [stOk,stM,stT,nameT,lk,AV.tr,Blk.tr,trss,trss_enc _ pure_encE,trs_pure _ _ (pure_encE _),AM.upd,AM.rep]; done)
    | (simp at hl ⊢; omega)
theorem con227f {x:Entry} {l:List Entry} (hl:(x :: l).length≤1000000000):Con Tryz.prog 227 [.slv 5 (encE x :: l.map encE)] (.slm 1 (l.length+1),[(1,some (.rows 79 5 (encE x :: l.map encE)))],[]):=by
  refine mcb_of_vc mix x227 (by simp [F227]) fun hw _=>?_
  repeat' with_reducible first|refine gTn_of (fun h=>?_) (fun h=>?_)|refine gT_of (fun h=>?_) (fun h=>?_)|refine caseTn_of (fun h=>?_) (fun h=>?_)|refine caseT_of (fun h=>?_) (fun h=>?_)|refine fin_new1 [(81,1)] ?_ ?_ ?_|refine kv_ifn ?_ ?_|refine kv_if ?_ ?_|refine k_if ?_ ?_|simp -implicitDefEqProofs only [F227,qA,doLd,doSt,splice,doEqs,qU,List.reduceReplicate,Nat.reduceAdd,Nat.reduceSub,Nat.reduceLeDiff,Nat.reduceEqDiff,Nat.reduceMul,reduceIte,reduceCtorEq,en_nil,en_sle,en_cons,ng_f,ng_t,doBslice, *]
  all_goals first
    | (simp; done)
    | (simp [stOk,stM,stT,nameT,lk,AV.tr,Blk.tr,trss,trss_enc _ pure_encE,trs_pure _ _ (pure_encE _),AM.upd,AM.rep]; done)
    | (simp at hl ⊢; omega)
theorem con227g {l:List Entry} (hne:l≠[]) (hl:l.length≤1000000000):Con Tryz.prog 227 [.slv 5 (l.map encE)] (.slm 1 l.length,[(1,some (.rows 79 5 (l.map encE)))],[]):=by
  cases l with
  | nil=>exact absurd rfl hne
  | cons x l=>exact con227f hl

theorem con208s {id:Int}:Con Tryz.prog 208 [.slv 1 [[.int .i64 id]]] (.bool (lCheck [id]),[],[]):=con208 (l:=[id]) (by simp)
def F137:AFn:=⟨28,(.seq (.reg [o1 4 (.mv (.const .slnil)),o1 5 (.mv (ci 0))]) (.seq (.reg [o1 7 (.mv 0),o1 8 (.call 225 [7]),o1 6 (.mv 8)]) (.seq (.block 0 (.seq (.seq (.reg [o1 10 (.mv 0),o1 11 (.call 208 [10]),o1 12 (.not 11),o1 9 (.mv 12)]) (.cond 9 .skip (.reg [o1 13 (.mv 1),o1 14 (.bslice 3 1 1 [13]),o1 15 (.call 208 [14]),o1 16 (.not 15),o1 9 (.mv 16)]))) (.cond 9 (.seq (.reg [o1 17 (.mv 6),o1 4 (.mv 17),o1 5 (.mv (ci 40))]) .ret) (.seq (.reg [o1 19 (.mv 0),o1 20 (.mv 1),o1 21 (.call 229 [19,20]),o1 22 (.bin .geq 21 (ci 0)),o1 18 (.mv 22)]) (.cond 18 (.seq (.reg [o1 23 (.mv 6),o1 4 (.mv 23),o1 5 (.mv (ci 60))]) .ret) .skip))))) (.seq (.reg [o1 24 (.mv 6),o1 25 (.mv 1),o1 26 (.bslice 3 1 1 [25]),o1 27 (.app 3 1 8 24 26),o1 4 (.mv 27),o1 5 (.mv (ci 0))]) .ret)))),[(4,none),(5,none)]⟩
theorem x137:xf Tryz.prog 137=some F137:=by kernel_rfl
theorem con137 {l:List Int} {id:Int} (hl:l.length≤100000000):Con Tryz.prog 137 [.slv 1 (l.map encI),.int .i64 id] (.tup [.slv 1 ((lEnter l id).1.map encI),.int .i64 (lEnter l id).2],[],[]):=by
  by_cases hne:l=[]
  · subst hne
    refine con_nilm ?_ ?_
    all_goals refine mcb_of_vc mix x137 (by simp [F137]) fun hw _=>?_
    repeat' with_reducible first|refine gTn_of (fun h=>?_) (fun h=>?_)|refine gT_of (fun h=>?_) (fun h=>?_)|refine caseTn_of (fun h=>?_) (fun h=>?_)|refine caseT_of (fun h=>?_) (fun h=>?_)|refine fin_all ?_ ?_ ?_ rfl ?_|refine kv_ifn ?_ ?_|refine kv_if ?_ ?_|refine k_if ?_ ?_|refine P0 con225n ?_ ?_ ?_|refine N1 con225e ?_ ?_|refine N1 (con225g hne ?_) ?_ ?_|refine P0 (con208 ?_) ?_ ?_ ?_|refine P0 (con_w0 (enc:=encI) (con208 (l:=[]) ?_)) ?_ ?_ ?_|refine P0 (con_we (enc:=encI) (con208 (l:=[]) ?_)) ?_ ?_ ?_|refine ACV.of (con208 ?_) ?_ ?_ ?_|refine P0 (con229 ?_) ?_ ?_ ?_|refine P0 (con_w0 (enc:=encI) (con229 (l:=[]) ?_)) ?_ ?_ ?_|refine P0 (con_we (enc:=encI) (con229 (l:=[]) ?_)) ?_ ?_ ?_|refine ACV.of (con229 ?_) ?_ ?_ ?_|refine ACV.of con208s ?_ ?_ ?_|refine AC.viewAll ?_ ?_ ?_|simp -implicitDefEqProofs only [F137,qA,doLd,doSt,splice,doEqs,qU,List.reduceReplicate,Nat.reduceAdd,Nat.reduceSub,Nat.reduceLeDiff,Nat.reduceEqDiff,Nat.reduceMul,reduceIte,reduceCtorEq,up_s,bt_rows,trss,doBslice,Nat.zero_le,List.length_map,take_mapl, *]
    all_goals first
      | (simp; done)
      | (simp at hl ⊢; omega)
      | omega
      | (simp [puress_append,puress_map pure_encI,puress,pures,AV.pure]; done)
      | (first
          | rw [show lEnter [] id=([],40) by grind [lEnter]]
          | rw [show lEnter [] id=([],60) by grind [lEnter]]
          | rw [show lEnter [] id=([] ++ [id],0) by grind [lEnter]]
         refine Wk.tup ⟨?_,fun _=>rfl,Wk.refl _,fun _=>rfl,trivial⟩
         first
          | exact Wk.nil _
          | exact Wk.refl _
          | (refine Wk.of_eq ?_; simp [encI,List.take_of_length_le]; done))
      | trace_state
  · refine mcb_of_vc mix x137 (by simp [F137]) fun hw _=>?_
    repeat' with_reducible first|refine gTn_of (fun h=>?_) (fun h=>?_)|refine gT_of (fun h=>?_) (fun h=>?_)|refine caseTn_of (fun h=>?_) (fun h=>?_)|refine caseT_of (fun h=>?_) (fun h=>?_)|refine fin_all ?_ ?_ ?_ rfl ?_|refine kv_ifn ?_ ?_|refine kv_if ?_ ?_|refine k_if ?_ ?_|refine P0 con225n ?_ ?_ ?_|refine N1 con225e ?_ ?_|refine N1 (con225g hne ?_) ?_ ?_|refine P0 (con208 ?_) ?_ ?_ ?_|refine P0 (con_w0 (enc:=encI) (con208 (l:=[]) ?_)) ?_ ?_ ?_|refine P0 (con_we (enc:=encI) (con208 (l:=[]) ?_)) ?_ ?_ ?_|refine ACV.of (con208 ?_) ?_ ?_ ?_|refine P0 (con229 ?_) ?_ ?_ ?_|refine P0 (con_w0 (enc:=encI) (con229 (l:=[]) ?_)) ?_ ?_ ?_|refine P0 (con_we (enc:=encI) (con229 (l:=[]) ?_)) ?_ ?_ ?_|refine ACV.of (con229 ?_) ?_ ?_ ?_|refine ACV.of con208s ?_ ?_ ?_|refine AC.viewAll ?_ ?_ ?_|simp -implicitDefEqProofs only [F137,qA,doLd,doSt,splice,doEqs,qU,List.reduceReplicate,Nat.reduceAdd,Nat.reduceSub,Nat.reduceLeDiff,Nat.reduceEqDiff,Nat.reduceMul,reduceIte,reduceCtorEq,up_s,bt_rows,trss,doBslice,Nat.zero_le,List.length_map,take_mapl, *]
    all_goals first
      | (simp; done)
      | (simp at hl ⊢; omega)
      | omega
      | (simp [puress_append,puress_map pure_encI,puress,pures,AV.pure]; done)
      | (first
          | rw [show lEnter l id=(l,40) by grind [lEnter]]
          | rw [show lEnter l id=(l,60) by grind [lEnter]]
          | rw [show lEnter l id=(l ++ [id],0) by grind [lEnter]]
         refine Wk.tup ⟨?_,fun _=>rfl,Wk.refl _,fun _=>rfl,trivial⟩
         first
          | exact Wk.nil _
          | exact Wk.refl _
          | (refine Wk.of_eq ?_; simp [encI,List.take_of_length_le]; done))
      | trace_state

def F107:AFn:=⟨38,(.seq (.reg [o1 2 (.mv (.const (.bool false)))]) (.seq (.seq (.reg [o1 5 (.mv 0),o1 6 (.len 5),o1 7 (.mv (ci 0))]) (.block 0 (.loop (.seq (.reg [o1 8 (.bin .lss 7 6)]) (.seq (.cond 8 .skip (.exit 0)) (.seq (.block 1 (.seq (.reg [o1 9 (.mv 7),o1 10 (.iaddr 2 5 7),o1 11 (.ld 2 true 10),o1 4 (.alloc 145 [(.int .i64 0),(.int .i64 0)]),o1 3 (.mv 9),o2 (.st 2 4 11)]) (.seq (.reg [o1 12 (.faddr 0 4),o1 13 (.ld 1 false 12),o1 14 (.bin .lss 13 (ci 0)),o1 15 (.mv 14),o4 16 (.faddr 0 4) 15,o4 17 (.ld 1 false 16) 15,o4 18 (.bin .gtr 17 (ci 2199023255552)) 15,o1 19 (.pick 15 (.const (.bool true)) 18),o1 20 (.mv 19),o4 21 (.faddr 0 4) 20,o4 22 (.ld 1 false 21) 20,o4 23 (.mv 0) 20,o4 24 (.len 23) 20,o4 25 (.call 131 [22,24]) 20,o4 26 (.mv 3) 20,o4 27 (.bin .neq 25 26) 20,o1 28 (.pick 20 (.const (.bool true)) 27)]) (.cond 28 (.seq (.reg [o1 2 (.mv (.const (.bool false)))]) .ret) .skip)))) (.reg [o1 29 (.bin .add 7 (ci 1)),o1 7 (.mv 29)]))))))) (.seq (.reg [o1 30 (.mv 0),o1 31 (.len 30),o1 32 (.bin .geq 31 (ci 1)),o1 33 (.mv 32),o3 34 (.mv 0) 33,o3 35 (.len 34) 33,o3 36 (.bin .leq 35 (ci 64)) 33,o1 37 (.pick 33 36 (.const (.bool false))),o1 2 (.mv 37)]) .ret))),[(2,none)]⟩
theorem x107:xf Tryz.prog 107=some F107:=by kernel_rfl
theorem con107 {l:List Slot} (hl:l.length≤1000000000):Con Tryz.prog 107 [.slv 2 (l.map encS)] (.bool (slotCheck l),[],[]):=by
  refine mcb_of_vc mix x107 (by simp [F107]) fun hw _=>?_
  simp only [wfs,AV.wf,inR_i64,List.length_map] at hw
  simp -implicitDefEqProofs only [F107,qA,doLd,doSt,splice,doEqs,qU,List.reduceReplicate,Nat.reduceAdd,Nat.reduceSub,Nat.reduceLeDiff,Nat.reduceEqDiff,Nat.reduceMul,reduceIte,reduceCtorEq,len_encS,take_encS,encS,Int.toNat_natCast,Int.natCast_zero]
  refine ls_of (fun i:Nat=>[some (.slv 2 (l.map encS)),none,none,none,none,some (.slv 2 (l.map encS)),some (.int .i64 l.length),some (.int .i64 i),none,none,none,none,none,none,none,none,none,none,none,none,none,none,none,none,none,none,none,none,none,none,none,none,none,none,none,none,none,none]) (fun i=>i≤l.length∧∀ j,j<i→slotOk l j=true) (fun i=>l.length - i) 0 ?_ ?_ ?_ ?_ ?_
  rotate_right
  · intro i hJ
    simp only [all_some,all_none,all_nil]
    intros
    repeat' with_reducible first|refine gTn_of (fun h=>?_) (fun h=>?_)|refine gT_of (fun h=>?_) (fun h=>?_)|refine caseTn_of (fun h=>?_) (fun h=>?_)|refine caseT_of (fun h=>?_) (fun h=>?_)|refine fin_pure ?_ ?_ ?_ ?_|refine kv_ifn ?_ ?_|refine kv_if ?_ ?_|refine k_if ?_ ?_|refine ia_of (d:=default) ?_ ?_|refine rs_of (i+1) ?_ ?_ ?_ ?_ ?_|refine P0 (con131) ?_ ?_ ?_|refine ACV.of (con131) ?_ ?_ ?_|refine ACK.of (con131) ?_ ?_|simp -implicitDefEqProofs only [F107,qA,doLd,doSt,splice,doEqs,qU,List.reduceReplicate,Nat.reduceAdd,Nat.reduceSub,Nat.reduceLeDiff,Nat.reduceEqDiff,Nat.reduceMul,reduceIte,reduceCtorEq,len_encS,take_encS,encS,Int.toNat_natCast,Int.natCast_zero, *]
    all_goals first
    | (simp; done)
    | (rw [slotCheck,rall_f (i:=i) (by grind) (by grind [slotOk])]; simp; done)
    | (rw [slotCheck,rall_t (by grind)]; grind)
    | grind [inR_i64,wrap64,maxLen_eq,getD_mem,slotOk]
  all_goals first
    | (simp; done)
    | (simp -implicitDefEqProofs only [F107,qA,doLd,doSt,splice,doEqs,qU,List.reduceReplicate,Nat.reduceAdd,Nat.reduceSub,Nat.reduceLeDiff,Nat.reduceEqDiff,Nat.reduceMul,reduceIte,reduceCtorEq,len_encS,take_encS,encS,Int.toNat_natCast,Int.natCast_zero]; done)
    | (rw [slotCheck,rall_f (i:=i) (by grind) (by grind [slotOk])]; simp; done)
    | (rw [slotCheck,rall_t (by grind)]; grind)
    | grind [inR_i64,wrap64,maxLen_eq,getD_mem,slotOk]

def F271:AFn:=⟨23,(.seq (.reg [o1 4 (.mv (.const (.bool false)))]) (.seq (.reg [o1 5 (.mv 1),o1 6 (.bin .geq 5 (ci 0)),o1 7 (.mv 6),o3 8 (.mv 0) 7,o3 9 (.call 107 [8]) 7,o1 10 (.pick 7 9 (.const (.bool false))),o1 11 (.mv 10),o3 12 (.mv 0) 11,o3 13 (.mv 1) 11,o3 14 (.mv 0) 11,o3 15 (.len 14) 11,o3 16 (.call 131 [13,15]) 11,o3 17 (.iaddr 2 12 16) 11,o3 18 (.faddr 0 17) 11,o3 19 (.ld 1 false 18) 11,o3 20 (.mv 1) 11,o3 21 (.bin .eql 19 20) 11,o1 22 (.pick 11 21 (.const (.bool false))),o1 4 (.mv 22)]) .ret)),[(4,none)]⟩
theorem x271:xf Tryz.prog 271=some F271:=by kernel_rfl
theorem con271 {p:Int} {l:List Slot} (hl:l.length≤1000000000):Con Tryz.prog 271 [.slv 2 (l.map encS),.int .i64 p] ((.bool (slotReady l p)),[],[]):=by
  refine mcb_of_vc mix x271 (by simp [F271]) fun hw _=>?_
  simp only [wfs,AV.wf,inR_i64] at hw
  repeat' with_reducible first|refine gTn_of (fun h=>?_) (fun h=>?_)|refine gT_of (fun h=>?_) (fun h=>?_)|refine caseTn_of (fun h=>?_) (fun h=>?_)|refine caseT_of (fun h=>?_) (fun h=>?_)|refine fin_pure ?_ ?_ ?_ ?_|refine kv_ifn ?_ ?_|refine kv_if ?_ ?_|refine k_if ?_ ?_|refine ia_of (d:=default) ?_ ?_|refine P0 (con107 ?_) ?_ ?_ ?_|refine ACV.of (con107 ?_) ?_ ?_ ?_|refine ACK.of (con107 ?_) ?_ ?_|refine P0 (con131) ?_ ?_ ?_|refine ACV.of (con131) ?_ ?_ ?_|refine ACK.of (con131) ?_ ?_|simp -implicitDefEqProofs only [F271,qA,doLd,doSt,splice,doEqs,qU,List.reduceReplicate,Nat.reduceAdd,Nat.reduceSub,Nat.reduceLeDiff,Nat.reduceEqDiff,Nat.reduceMul,reduceIte,reduceCtorEq,encS, *]
  all_goals (have hA:=posPlace_lo p l.length; have hB:=posPlace_hi p l.length)
  all_goals first
    | (simp; done)
    | exact idxF_any
    | exact idxF_any.symm
    | grind [inR_i64,wrap64,maxLen_eq,slotReady,slotCheck]

def F282:AFn:=⟨21,(.seq (.reg [o1 2 (.mv (ci 0)),o1 3 (.mv (.const .slnil)),o1 4 (.mv (.const (.bool false)))]) (.seq (.seq (.reg [o1 5 (.mv 0),o1 6 (.call 208 [5]),o1 7 (.not 6),o1 8 (.mv 7),o4 9 (.mv 0) 8,o4 10 (.len 9) 8,o4 11 (.bin .eql 10 (ci 0)) 8,o1 12 (.pick 8 (.const (.bool true)) 11)]) (.cond 12 (.seq (.reg [o1 13 (.mv 0),o1 14 (.call 225 [13]),o1 2 (.mv (ci 0)),o1 3 (.mv 14),o1 4 (.mv (.const (.bool false)))]) .ret) .skip)) (.seq (.regT [o1 15 (.mv 0),o1 16 (.iaddr 1 15 (ci 0)),o1 17 (.ld 1 false 16),o1 18 (.mv 0),o1 19 (.slc 1 18 (some (ci 1)) none),o1 20 (.call 225 [19]),o1 2 (.mv 17),o1 3 (.mv 20),o1 4 (.mv (.const (.bool true)))] [(1,4),(2,4),(1,5),(2,5)]) .ret))),[(2,none),(3,none),(4,none)]⟩
theorem x282:xf Tryz.prog 282=some F282:=by kernel_rfl
theorem con282  {l:List Int} (hl:l.length≤1000000000):Con Tryz.prog 282 [.slv 1 (l.map encI)] ((.tup [.int .i64 ((lNext l).1),.slv 1 (((lNext l).2.1).map encI),.bool ((lNext l).2.2)]),[],[]):=by
  refine mcb_of_vc mix x282 (by simp [F282]) fun hw _=>?_
  simp only [wfs,AV.wf,inR_i64] at hw
  repeat' with_reducible first|refine gTn_of (fun h=>?_) (fun h=>?_)|refine gT_of (fun h=>?_) (fun h=>?_)|refine caseTn_of (fun h=>?_) (fun h=>?_)|refine caseT_of (fun h=>?_) (fun h=>?_)|refine fin_pure ?_ ?_ ?_ ?_|refine kv_ifn ?_ ?_|refine kv_if ?_ ?_|refine k_if ?_ ?_|refine ia_of (d:=default) ?_ ?_|refine slc_from ?_ ?_|refine P0 (con208 ?_) ?_ ?_ ?_|refine ACV.of (con208 ?_) ?_ ?_ ?_|refine ACK.of (con208 ?_) ?_ ?_|refine P0 (con225 ?_) ?_ ?_ ?_|refine ACV.of (con225 ?_) ?_ ?_ ?_|refine ACK.of (con225 ?_) ?_ ?_|simp -implicitDefEqProofs only [F282,qA,doLd,doSt,splice,doEqs,qU,List.reduceReplicate,Nat.reduceAdd,Nat.reduceSub,Nat.reduceLeDiff,Nat.reduceEqDiff,Nat.reduceMul,reduceIte,reduceCtorEq,encI,List.length_map, *]
  all_goals first
    | (simp; done)
    | exact idxF_any
    | exact idxF_any.symm
    | grind [inR_i64,wrap64,maxLen_eq,lNext]

def F109:AFn:=⟨16,(.seq (.reg [o1 1 (.box 29 0),o1 2 (.mv (.const (.bool false)))]) (.seq (.reg [o1 3 (.faddr 0 1),o1 4 (.ld 1 false 3),o1 5 (.bin .geq 4 (ci 0)),o1 6 (.mv 5),o3 7 (.faddr 0 1) 6,o3 8 (.ld 1 false 7) 6,o3 9 (.bin .leq 8 (ci 1099511627776)) 6,o1 10 (.pick 6 9 (.const (.bool false))),o1 11 (.mv 10),o3 12 (.faddr 1 1) 11,o3 13 (.ld 1 false 12) 11,o3 14 (.call 208 [13]) 11,o1 15 (.pick 11 14 (.const (.bool false))),o1 2 (.mv 15)]) .ret)),[(2,none)]⟩
theorem x109:xf Tryz.prog 109=some F109:=by kernel_rfl
theorem con109 {e_ep:Int} {e_ln:List Int} (hl:e_ln.length≤100000000):Con Tryz.prog 109 [.agg [.int .i64 e_ep,.slv 1 (e_ln.map encI)]] ((.bool (vCheck (Event.mk e_ep e_ln))),[],[]):=by
  refine mcb_of_vc mix x109 (by simp [F109]) fun hw _=>?_
  simp only [wfs,AV.wf,inR_i64] at hw
  repeat' with_reducible first|refine gTn_of (fun h=>?_) (fun h=>?_)|refine gT_of (fun h=>?_) (fun h=>?_)|refine caseTn_of (fun h=>?_) (fun h=>?_)|refine caseT_of (fun h=>?_) (fun h=>?_)|refine fin_pure ?_ ?_ ?_ ?_|refine kv_ifn ?_ ?_|refine kv_if ?_ ?_|refine k_if ?_ ?_|refine P0 (con208 ?_) ?_ ?_ ?_|refine ACV.of (con208 ?_) ?_ ?_ ?_|refine ACK.of (con208 ?_) ?_ ?_|simp -implicitDefEqProofs only [F109,qA,doLd,doSt,splice,doEqs,qU,List.reduceReplicate,Nat.reduceAdd,Nat.reduceSub,Nat.reduceLeDiff,Nat.reduceEqDiff,Nat.reduceMul,reduceIte,reduceCtorEq, *]
  all_goals first
    | (simp; done)
    | exact idxF_any
    | exact idxF_any.symm
    | grind [inR_i64,wrap64,maxLen_eq,vCheck]

def F200:AFn:=⟨9,(.seq (.reg [o1 1 (.box 29 0),o1 2 (.alloc 29 [(.int .i64 0),.slnil])]) (.seq (.regT [o1 3 (.faddr 0 1),o1 4 (.ld 1 false 3),o1 5 (.faddr 1 1),o1 6 (.ld 1 false 5),o1 7 (.call 225 [6]),o1 8 (.build [(.int .i64 0),.slnil] [(0,1,4),(1,1,7)]),o2 (.st 2 2 8)] [(0,2),(1,2),(0,3),(1,3),(0,4),(1,4)]) .ret)),[(2,some (2,true))]⟩
theorem x200:xf Tryz.prog 200=some F200:=by kernel_rfl
theorem con200 {e_ep:Int} {e_ln:List Int} (hl:e_ln.length≤100000000):Con Tryz.prog 200 [.agg [.int .i64 e_ep,.slv 1 (e_ln.map encI)]] ((.agg (encV ((Event.mk e_ep e_ln)))),[],[]):=by
  refine mcb_of_vc mix x200 (by simp [F200]) fun hw _=>?_
  simp only [wfs,AV.wf,inR_i64] at hw
  repeat' with_reducible first|refine gTn_of (fun h=>?_) (fun h=>?_)|refine gT_of (fun h=>?_) (fun h=>?_)|refine caseTn_of (fun h=>?_) (fun h=>?_)|refine caseT_of (fun h=>?_) (fun h=>?_)|refine fin_pure ?_ ?_ ?_ ?_|refine kv_ifn ?_ ?_|refine kv_if ?_ ?_|refine k_if ?_ ?_|refine P0 (con225 ?_) ?_ ?_ ?_|refine ACV.of (con225 ?_) ?_ ?_ ?_|refine ACK.of (con225 ?_) ?_ ?_|simp -implicitDefEqProofs only [F200,qA,doLd,doSt,splice,doEqs,qU,List.reduceReplicate,Nat.reduceAdd,Nat.reduceSub,Nat.reduceLeDiff,Nat.reduceEqDiff,Nat.reduceMul,reduceIte,reduceCtorEq,encV, *]
  all_goals first
    | (simp; done)
    | exact idxF_any
    | exact idxF_any.symm
    | grind [inR_i64,wrap64,maxLen_eq]

def F148:AFn:=⟨8,(.seq (.reg [o1 1 (.box 29 0),o1 2 (.mv (ci 0))]) (.seq (.seq (.reg [o1 3 (.ld 2 true 1),o1 4 (.call 109 [3]),o1 5 (.not 4)]) (.cond 5 (.seq (.reg [o1 2 (.mv (ci (-1)))]) .ret) .skip)) (.seq (.reg [o1 6 (.faddr 0 1),o1 7 (.ld 1 false 6),o1 2 (.mv 7)]) .ret))),[(2,none)]⟩
theorem x148:xf Tryz.prog 148=some F148:=by kernel_rfl
theorem con148 {e_ep:Int} {e_ln:List Int} (hl:e_ln.length≤100000000):Con Tryz.prog 148 [.agg [.int .i64 e_ep,.slv 1 (e_ln.map encI)]] ((.int .i64 (vPrepare (Event.mk e_ep e_ln))),[],[]):=by
  refine mcb_of_vc mix x148 (by simp [F148]) fun hw _=>?_
  simp only [wfs,AV.wf,inR_i64] at hw
  repeat' with_reducible first|refine gTn_of (fun h=>?_) (fun h=>?_)|refine gT_of (fun h=>?_) (fun h=>?_)|refine caseTn_of (fun h=>?_) (fun h=>?_)|refine caseT_of (fun h=>?_) (fun h=>?_)|refine fin_pure ?_ ?_ ?_ ?_|refine kv_ifn ?_ ?_|refine kv_if ?_ ?_|refine k_if ?_ ?_|refine P0 (con109 ?_) ?_ ?_ ?_|refine ACV.of (con109 ?_) ?_ ?_ ?_|refine ACK.of (con109 ?_) ?_ ?_|simp -implicitDefEqProofs only [F148,qA,doLd,doSt,splice,doEqs,qU,List.reduceReplicate,Nat.reduceAdd,Nat.reduceSub,Nat.reduceLeDiff,Nat.reduceEqDiff,Nat.reduceMul,reduceIte,reduceCtorEq, *]
  all_goals first
    | (simp; done)
    | exact idxF_any
    | exact idxF_any.symm
    | grind [inR_i64,wrap64,maxLen_eq,vPrepare]

def F150:AFn:=⟨38,(.seq (.reg [o1 3 (.box 29 0),o1 6 (.alloc 29 [(.int .i64 0),.slnil]),o1 7 (.mv (.const (.bool false))),o1 8 (.mv (ci 0))]) (.seq (.seq (.reg [o1 11 (.ld 2 true 3),o1 12 (.call 109 [11]),o1 13 (.not 12)]) (.cond 13 (.seq (.reg [o1 14 (.ld 2 true 3),o1 15 (.call 200 [14]),o2 (.st 2 6 15),o1 7 (.mv (.const (.bool false))),o1 8 (.mv (ci 40))]) .ret) .skip)) (.seq (.reg [o1 17 (.faddr 1 3),o1 18 (.ld 1 false 17),o1 19 (.mv 2),o1 20 (.call 137 [18,19]),o1 16 (.mv 20),o1 21 (.ext 16 0),o1 22 (.ext 16 1),o1 9 (.mv 21),o1 10 (.mv 22)]) (.seq (.seq (.reg [o1 23 (.mv 10),o1 24 (.bin .neq 23 (ci 0)),o1 25 (.mv 24),o4 26 (.faddr 0 3) 25,o4 27 (.ld 1 false 26) 25,o4 28 (.mv 1) 25,o4 29 (.bin .neq 27 28) 25,o1 30 (.pick 25 (.const (.bool true)) 29)]) (.cond 30 (.seq (.reg [o1 31 (.ld 2 true 3),o1 32 (.call 200 [31]),o1 33 (.mv 10),o2 (.st 2 6 32),o1 7 (.mv (.const (.bool false))),o1 8 (.mv 33)]) .ret) .skip)) (.seq (.reg [o1 34 (.faddr 0 3),o1 35 (.ld 1 false 34),o1 36 (.mv 9),o1 37 (.build [(.int .i64 0),.slnil] [(0,1,35),(1,1,36)]),o2 (.st 2 6 37),o1 7 (.mv (.const (.bool true))),o1 8 (.mv (ci 0))]) .ret))))),[(6,some (2,true)),(7,none),(8,none)]⟩
theorem x150:xf Tryz.prog 150=some F150:=by kernel_rfl
theorem con150 {e_ep:Int} {e_ln:List Int} {seen id:Int} (hl:e_ln.length≤100000000):Con Tryz.prog 150 [.agg [.int .i64 e_ep,.slv 1 (e_ln.map encI)],.int .i64 seen,.int .i64 id] ((.tup [.agg (encV ((vCommit (Event.mk e_ep e_ln) seen id).1)),.bool ((vCommit (Event.mk e_ep e_ln) seen id).2.1),.int .i64 ((vCommit (Event.mk e_ep e_ln) seen id).2.2)]),[],[]):=by
  refine mcb_of_vc mix x150 (by simp [F150]) fun hw _=>?_
  simp only [wfs,AV.wf,inR_i64] at hw
  repeat' with_reducible first|refine gTn_of (fun h=>?_) (fun h=>?_)|refine gT_of (fun h=>?_) (fun h=>?_)|refine caseTn_of (fun h=>?_) (fun h=>?_)|refine caseT_of (fun h=>?_) (fun h=>?_)|refine fin_pure ?_ ?_ ?_ ?_|refine kv_ifn ?_ ?_|refine kv_if ?_ ?_|refine k_if ?_ ?_|refine P0 (con109 ?_) ?_ ?_ ?_|refine ACV.of (con109 ?_) ?_ ?_ ?_|refine ACK.of (con109 ?_) ?_ ?_|refine P0 (con200 ?_) ?_ ?_ ?_|refine ACV.of (con200 ?_) ?_ ?_ ?_|refine ACK.of (con200 ?_) ?_ ?_|refine P0 (con137 ?_) ?_ ?_ ?_|refine ACV.of (con137 ?_) ?_ ?_ ?_|refine ACK.of (con137 ?_) ?_ ?_|simp -implicitDefEqProofs only [F150,qA,doLd,doSt,splice,doEqs,qU,List.reduceReplicate,Nat.reduceAdd,Nat.reduceSub,Nat.reduceLeDiff,Nat.reduceEqDiff,Nat.reduceMul,reduceIte,reduceCtorEq,encV, *]
  all_goals first
    | (simp; done)
    | exact idxF_any
    | exact idxF_any.symm
    | grind [inR_i64,wrap64,maxLen_eq,vCommit]

end Go.Sak
