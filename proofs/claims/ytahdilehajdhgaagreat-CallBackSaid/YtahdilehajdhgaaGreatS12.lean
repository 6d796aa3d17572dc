/- Part S12 of the proofs about the program: K3, K4. Conditions: none. -/
import Derived.Test.YtahdilehajdhgaaGreatS11
import Derived.Test.YtahdilehajdhgaaGreatS03
import Derived.Test.YtahdilehajdhgaaGreatS04
import Derived.Test.YtahdilehajdhgaaGreatProg
import Derived.KernelRfl
namespace Go.Sak
open Go Go.RowKit Go.Proofs
set_option linter.unusedVariables false
set_option linter.unusedSimpArgs false
set_option maxRecDepth 10000
set_option maxHeartbeats 8000000
def F142:AFn:=⟨19,(.seq (.reg [o1 4 (.mv (ci 0))]) (.seq (.seq (.reg [o1 6 (.mv 0),o1 7 (.len 6),o1 8 (.mv (ci 0))]) (.block 0 (.loop (.seq (.reg [o1 9 (.bin .lss 8 7)]) (.seq (.cond 9 .skip (.exit 0)) (.seq (.block 1 (.seq (.reg [o1 10 (.mv 8),o1 5 (.mv 10)]) (.seq (.reg [o1 11 (.mv 1),o1 12 (.mv 0),o1 13 (.mv 5),o1 14 (.iaddr 1 12 13),o1 15 (.ld 1 false 14),o1 16 (.callv 11 [15])]) (.cond 16 (.seq (.reg [o1 17 (.mv 5),o1 4 (.mv 17)]) .ret) .skip)))) (.reg [o1 18 (.bin .add 8 (ci 1)),o1 8 (.mv 18)]))))))) (.seq (.reg [o1 4 (.mv (ci (-1)))]) .ret))),[(4,none)]⟩
theorem x142:xf Tryz.prog 142=some F142:=by kernel_rfl
theorem con142 {g:FuncId} {caps:List AV} {p:Int→Bool} {l:List Int} (hp:pures caps=true) (hq:∀ x,x∈l→Con Tryz.prog g (.int .i64 x :: caps) (.bool (p x),[],[])):Con Tryz.prog 142 [.slv 1 (l.map encI),.fn (.func g) [] caps] (.int .i64 (idxF p l),[],[]):=by
  refine mcb_of_vc mix x142 (by simp [F142]) fun hw _=>?_
  simp only [wfs,AV.wf,inR_i64,List.length_map] at hw
  simp -implicitDefEqProofs only [F142,qA,doLd,doSt,splice,doEqs,qU,List.reduceReplicate,Nat.reduceAdd,Nat.reduceSub,Nat.reduceLeDiff,Nat.reduceEqDiff,Nat.reduceMul,reduceIte,reduceCtorEq,encI,Int.natCast_zero,Int.toNat_natCast,trs_pure _ _ hp,hp]
  refine ls_of (fun i:Nat=>[some (.slv 1 (l.map encI)),some (.fn (.func g) [] caps),none,none,none,none,none,some (.int .i64 l.length),some (.int .i64 i),none,none,none,none,none,none,none,none,none,none]) (fun i=>i≤l.length∧∀ j,j<i→p (l.getD j default)=false) (fun i=>l.length - i) 0 ?_ ?_ ?_ ?_ ?_
  rotate_right
  · intro i hJ
    simp only [all_some,all_none,all_nil]
    intros
    repeat' with_reducible first|refine gTn_of (fun h=>?_) (fun h=>?_)|refine gT_of (fun h=>?_) (fun h=>?_)|refine caseTn_of (fun h=>?_) (fun h=>?_)|refine caseT_of (fun h=>?_) (fun h=>?_)|refine fin_pure ?_ ?_ ?_ ?_|refine kv_ifn ?_ ?_|refine kv_if ?_ ?_|refine k_if ?_ ?_|refine AC.p0 (hq _ ?_) ?_ ?_ ?_ ?_|refine ia_of (d:=default) ?_ ?_|refine rs_of (i+1) ?_ ?_ ?_ ?_ ?_|simp -implicitDefEqProofs only [F142,qA,doLd,doSt,splice,doEqs,qU,List.reduceReplicate,Nat.reduceAdd,Nat.reduceSub,Nat.reduceLeDiff,Nat.reduceEqDiff,Nat.reduceMul,reduceIte,reduceCtorEq,encI,Int.natCast_zero,Int.toNat_natCast,trs_pure _ _ hp,hp, *]
    all_goals first
    | (simp; done)
    | exact idxF_found (d:=default) (by grind) (by grind) (by assumption)
    | exact idxF_none (d:=default) (fun j hj=>by grind)
    | grind [inR_i64,wrap64,maxLen_eq,getD_mem]
  all_goals first
    | (simp; done)
    | (simp -implicitDefEqProofs only [F142,qA,doLd,doSt,splice,doEqs,qU,List.reduceReplicate,Nat.reduceAdd,Nat.reduceSub,Nat.reduceLeDiff,Nat.reduceEqDiff,Nat.reduceMul,reduceIte,reduceCtorEq,encI,Int.natCast_zero,Int.toNat_natCast,trs_pure _ _ hp,hp]; done)
    | exact idxF_found (d:=default) (by grind) (by grind) (by assumption)
    | exact idxF_none (d:=default) (fun j hj=>by grind)
    | grind [inR_i64,wrap64,maxLen_eq,getD_mem]

def F102:AFn:=⟨19,(.seq (.reg [o1 4 (.mv (ci 0))]) (.seq (.seq (.reg [o1 6 (.mv 0),o1 7 (.len 6),o1 8 (.mv (ci 0))]) (.block 0 (.loop (.seq (.reg [o1 9 (.bin .lss 8 7)]) (.seq (.cond 9 .skip (.exit 0)) (.seq (.block 1 (.seq (.reg [o1 10 (.mv 8),o1 5 (.mv 10)]) (.seq (.reg [o1 11 (.mv 1),o1 12 (.mv 0),o1 13 (.mv 5),o1 14 (.iaddr 11 12 13),o1 15 (.ld 11 true 14),o1 16 (.callv 11 [15])]) (.cond 16 (.seq (.reg [o1 17 (.mv 5),o1 4 (.mv 17)]) .ret) .skip)))) (.reg [o1 18 (.bin .add 8 (ci 1)),o1 8 (.mv 18)]))))))) (.seq (.reg [o1 4 (.mv (ci (-1)))]) .ret))),[(4,none)]⟩
theorem x102:xf Tryz.prog 102=some F102:=by kernel_rfl
theorem con102 {g:FuncId} {caps:List AV} {p:Thread→Bool} {l:List Thread} (hp:pures caps=true) (hq:∀ x,x∈l→Con Tryz.prog g (.agg (encT x) :: caps) (.bool (p x),[],[])):Con Tryz.prog 102 [.slv 11 (l.map encT),.fn (.func g) [] caps] (.int .i64 (idxF p l),[],[]):=by
  refine mcb_of_vc mix x102 (by simp [F102]) fun hw _=>?_
  simp only [wfs,AV.wf,inR_i64,List.length_map] at hw
  simp -implicitDefEqProofs only [F102,qA,doLd,doSt,splice,doEqs,qU,List.reduceReplicate,Nat.reduceAdd,Nat.reduceSub,Nat.reduceLeDiff,Nat.reduceEqDiff,Nat.reduceMul,reduceIte,reduceCtorEq,len_encT,take_encT,Int.natCast_zero,Int.toNat_natCast,trs_pure _ _ hp,hp]
  refine ls_of (fun i:Nat=>[some (.slv 11 (l.map encT)),some (.fn (.func g) [] caps),none,none,none,none,none,some (.int .i64 l.length),some (.int .i64 i),none,none,none,none,none,none,none,none,none,none]) (fun i=>i≤l.length∧∀ j,j<i→p (l.getD j default)=false) (fun i=>l.length - i) 0 ?_ ?_ ?_ ?_ ?_
  rotate_right
  · intro i hJ
    simp only [all_some,all_none,all_nil]
    intros
    repeat' with_reducible first|refine gTn_of (fun h=>?_) (fun h=>?_)|refine gT_of (fun h=>?_) (fun h=>?_)|refine caseTn_of (fun h=>?_) (fun h=>?_)|refine caseT_of (fun h=>?_) (fun h=>?_)|refine fin_pure ?_ ?_ ?_ ?_|refine kv_ifn ?_ ?_|refine kv_if ?_ ?_|refine k_if ?_ ?_|refine AC.p0 (hq _ ?_) ?_ ?_ ?_ ?_|refine ia_of (d:=default) ?_ ?_|refine rs_of (i+1) ?_ ?_ ?_ ?_ ?_|simp -implicitDefEqProofs only [F102,qA,doLd,doSt,splice,doEqs,qU,List.reduceReplicate,Nat.reduceAdd,Nat.reduceSub,Nat.reduceLeDiff,Nat.reduceEqDiff,Nat.reduceMul,reduceIte,reduceCtorEq,len_encT,take_encT,Int.natCast_zero,Int.toNat_natCast,trs_pure _ _ hp,hp, *]
    all_goals first
    | (simp; done)
    | exact idxF_found (d:=default) (by grind) (by grind) (by assumption)
    | exact idxF_none (d:=default) (fun j hj=>by grind)
    | grind [inR_i64,wrap64,maxLen_eq,getD_mem]
  all_goals first
    | (simp; done)
    | (simp -implicitDefEqProofs only [F102,qA,doLd,doSt,splice,doEqs,qU,List.reduceReplicate,Nat.reduceAdd,Nat.reduceSub,Nat.reduceLeDiff,Nat.reduceEqDiff,Nat.reduceMul,reduceIte,reduceCtorEq,len_encT,take_encT,Int.natCast_zero,Int.toNat_natCast,trs_pure _ _ hp,hp]; done)
    | exact idxF_found (d:=default) (by grind) (by grind) (by assumption)
    | exact idxF_none (d:=default) (fun j hj=>by grind)
    | grind [inR_i64,wrap64,maxLen_eq,getD_mem]

def F101:AFn:=⟨9,(.seq (.reg [o1 4 (.mv (.const (.bool false)))]) (.seq (.reg [o1 5 (.mv 0),o1 6 (.mv 1),o1 7 (.call 142 [5,6]),o1 8 (.bin .geq 7 (ci 0)),o1 4 (.mv 8)]) .ret)),[(4,none)]⟩
theorem x101:xf Tryz.prog 101=some F101:=by kernel_rfl
theorem con101 {g:FuncId} {caps:List AV} {p:Int→Bool} {l:List Int} (hp:pures caps=true) (hq:∀ x,x∈l→Con Tryz.prog g (.int .i64 x :: caps) (.bool (p x),[],[])):Con Tryz.prog 101 [.slv 1 (l.map encI),.fn (.func g) [] caps] (.bool (l.any p),[],[]):=by
  refine mcb_of_vc mix x101 (by simp [F101]) fun hw _=>?_
  simp only [wfs,AV.wf,inR_i64,List.length_map] at hw
  repeat' with_reducible first|refine gTn_of (fun h=>?_) (fun h=>?_)|refine gT_of (fun h=>?_) (fun h=>?_)|refine caseTn_of (fun h=>?_) (fun h=>?_)|refine caseT_of (fun h=>?_) (fun h=>?_)|refine fin_pure ?_ ?_ ?_ ?_|refine kv_ifn ?_ ?_|refine kv_if ?_ ?_|refine k_if ?_ ?_|refine AC.p0 (con142 hp hq) ?_ ?_ ?_ ?_|simp -implicitDefEqProofs only [F101,qA,doLd,doSt,splice,doEqs,qU,List.reduceReplicate,Nat.reduceAdd,Nat.reduceSub,Nat.reduceLeDiff,Nat.reduceEqDiff,Nat.reduceMul,reduceIte,reduceCtorEq,trs_pure _ _ hp,hp, *]
  all_goals first
    | (simp; done)
    | exact idxF_any.symm
    | exact idxF_any

def F56:AFn:=⟨9,(.seq (.reg [o1 4 (.mv (.const (.bool false)))]) (.seq (.reg [o1 5 (.mv 0),o1 6 (.mv 1),o1 7 (.call 102 [5,6]),o1 8 (.bin .geq 7 (ci 0)),o1 4 (.mv 8)]) .ret)),[(4,none)]⟩
theorem x56:xf Tryz.prog 56=some F56:=by kernel_rfl
theorem con56 {g:FuncId} {caps:List AV} {p:Thread→Bool} {l:List Thread} (hp:pures caps=true) (hq:∀ x,x∈l→Con Tryz.prog g (.agg (encT x) :: caps) (.bool (p x),[],[])):Con Tryz.prog 56 [.slv 11 (l.map encT),.fn (.func g) [] caps] (.bool (l.any p),[],[]):=by
  refine mcb_of_vc mix x56 (by simp [F56]) fun hw _=>?_
  simp only [wfs,AV.wf,inR_i64,List.length_map] at hw
  repeat' with_reducible first|refine gTn_of (fun h=>?_) (fun h=>?_)|refine gT_of (fun h=>?_) (fun h=>?_)|refine caseTn_of (fun h=>?_) (fun h=>?_)|refine caseT_of (fun h=>?_) (fun h=>?_)|refine fin_pure ?_ ?_ ?_ ?_|refine kv_ifn ?_ ?_|refine kv_if ?_ ?_|refine k_if ?_ ?_|refine AC.p0 (con102 hp hq) ?_ ?_ ?_ ?_|simp -implicitDefEqProofs only [F56,qA,doLd,doSt,splice,doEqs,qU,List.reduceReplicate,Nat.reduceAdd,Nat.reduceSub,Nat.reduceLeDiff,Nat.reduceEqDiff,Nat.reduceMul,reduceIte,reduceCtorEq,trs_pure _ _ hp,hp, *]
  all_goals first
    | (simp; done)
    | exact idxF_any.symm
    | exact idxF_any

def F195:AFn:=⟨19,(.seq (.reg [o1 4 (.mv (ci 0))]) (.seq (.seq (.reg [o1 6 (.mv 0),o1 7 (.len 6),o1 8 (.mv (ci 0))]) (.block 0 (.loop (.seq (.reg [o1 9 (.bin .lss 8 7)]) (.seq (.cond 9 .skip (.exit 0)) (.seq (.block 1 (.seq (.reg [o1 10 (.mv 8),o1 5 (.mv 10)]) (.seq (.reg [o1 11 (.mv 1),o1 12 (.mv 0),o1 13 (.mv 5),o1 14 (.iaddr 1 12 13),o1 15 (.ld 1 false 14),o1 16 (.bin .eql 11 15)]) (.cond 16 (.seq (.reg [o1 17 (.mv 5),o1 4 (.mv 17)]) .ret) .skip)))) (.reg [o1 18 (.bin .add 8 (ci 1)),o1 8 (.mv 18)]))))))) (.seq (.reg [o1 4 (.mv (ci (-1)))]) .ret))),[(4,none)]⟩
theorem x195:xf Tryz.prog 195=some F195:=by kernel_rfl
theorem con195 {x:Int} {l:List Int}:Con Tryz.prog 195 [.slv 1 (l.map encI),.int .i64 x] (.int .i64 (idxF (fun y=>decide (x=y)) l),[],[]):=by
  refine mcb_of_vc mix x195 (by simp [F195]) fun hw _=>?_
  simp only [wfs,AV.wf,inR_i64,List.length_map] at hw
  simp -implicitDefEqProofs only [F195,qA,doLd,doSt,splice,doEqs,qU,List.reduceReplicate,Nat.reduceAdd,Nat.reduceSub,Nat.reduceLeDiff,Nat.reduceEqDiff,Nat.reduceMul,reduceIte,reduceCtorEq,encI,Int.toNat_natCast,Int.natCast_zero]
  refine ls_of (fun i:Nat=>[some (.slv 1 (l.map encI)),some (.int .i64 x),none,none,none,none,none,some (.int .i64 l.length),some (.int .i64 i),none,none,none,none,none,none,none,none,none,none]) (fun i=>i≤l.length∧∀ j,j<i→(fun y=>decide (x=y)) (l.getD j default)=false) (fun i=>l.length - i) 0 ?_ ?_ ?_ ?_ ?_
  rotate_right
  · intro i hJ
    simp only [all_some,all_none,all_nil]
    intros
    repeat' with_reducible first|refine gTn_of (fun h=>?_) (fun h=>?_)|refine gT_of (fun h=>?_) (fun h=>?_)|refine caseTn_of (fun h=>?_) (fun h=>?_)|refine caseT_of (fun h=>?_) (fun h=>?_)|refine fin_pure ?_ ?_ ?_ ?_|refine kv_ifn ?_ ?_|refine kv_if ?_ ?_|refine k_if ?_ ?_|refine ia_of (d:=default) ?_ ?_|refine rs_of (i+1) ?_ ?_ ?_ ?_ ?_|simp -implicitDefEqProofs only [F195,qA,doLd,doSt,splice,doEqs,qU,List.reduceReplicate,Nat.reduceAdd,Nat.reduceSub,Nat.reduceLeDiff,Nat.reduceEqDiff,Nat.reduceMul,reduceIte,reduceCtorEq,encI,Int.toNat_natCast,Int.natCast_zero, *]
    all_goals first
    | (simp; done)
    | exact idxF_found (d:=default) (by grind) (by grind) (by assumption)
    | exact idxF_none (d:=default) (fun j hj=>by grind)
    | grind [inR_i64,wrap64,maxLen_eq,getD_mem]
  all_goals first
    | (simp; done)
    | (simp -implicitDefEqProofs only [F195,qA,doLd,doSt,splice,doEqs,qU,List.reduceReplicate,Nat.reduceAdd,Nat.reduceSub,Nat.reduceLeDiff,Nat.reduceEqDiff,Nat.reduceMul,reduceIte,reduceCtorEq,encI,Int.toNat_natCast,Int.natCast_zero]; done)
    | exact idxF_found (d:=default) (by grind) (by grind) (by assumption)
    | exact idxF_none (d:=default) (fun j hj=>by grind)
    | grind [inR_i64,wrap64,maxLen_eq,getD_mem]

def F196:AFn:=⟨9,(.seq (.reg [o1 4 (.mv (.const (.bool false)))]) (.seq (.reg [o1 5 (.mv 0),o1 6 (.mv 1),o1 7 (.call 195 [5,6]),o1 8 (.bin .geq 7 (ci 0)),o1 4 (.mv 8)]) .ret)),[(4,none)]⟩
theorem x196:xf Tryz.prog 196=some F196:=by kernel_rfl
theorem con196 {x:Int} {l:List Int}:Con Tryz.prog 196 [.slv 1 (l.map encI),.int .i64 x] ((.bool (l.any (fun y=>decide (x=y)))),[],[]):=by
  refine mcb_of_vc mix x196 (by simp [F196]) fun hw _=>?_
  simp only [wfs,AV.wf,inR_i64] at hw
  repeat' with_reducible first|refine gTn_of (fun h=>?_) (fun h=>?_)|refine gT_of (fun h=>?_) (fun h=>?_)|refine caseTn_of (fun h=>?_) (fun h=>?_)|refine caseT_of (fun h=>?_) (fun h=>?_)|refine fin_pure ?_ ?_ ?_ ?_|refine kv_ifn ?_ ?_|refine kv_if ?_ ?_|refine k_if ?_ ?_|refine P0 (con195) ?_ ?_ ?_|refine ACV.of (con195) ?_ ?_ ?_|refine ACK.of (con195) ?_ ?_|simp -implicitDefEqProofs only [F196,qA,doLd,doSt,splice,doEqs,qU,List.reduceReplicate,Nat.reduceAdd,Nat.reduceSub,Nat.reduceLeDiff,Nat.reduceEqDiff,Nat.reduceMul,reduceIte,reduceCtorEq, *]
  all_goals first
    | (simp; done)
    | exact idxF_any
    | exact idxF_any.symm
    | grind [inR_i64,wrap64,maxLen_eq,idxF_any]

def F140:AFn:=⟨9,(.seq (.reg [o1 2 (.mv (.const (.bool false)))]) (.seq (.reg [o1 3 (.mv 0),o1 4 (.bin .lss 3 (ci 0)),o1 5 (.mv 4),o4 6 (.mv 0) 5,o4 7 (.bin .geq 6 (ci 16)) 5,o1 8 (.pick 5 (.const (.bool true)) 7),o1 2 (.mv 8)]) .ret)),[(2,none)]⟩
theorem x140:xf Tryz.prog 140=some F140:=by kernel_rfl
theorem con140 {x:Int}  : Con Tryz.prog 140 [.int .i64 x] ((.bool (lWrong x)),[],[]):=by
  refine mcb_of_vc mix x140 (by simp [F140]) fun hw _=>?_
  simp only [wfs,AV.wf,inR_i64] at hw
  repeat' with_reducible first|refine gTn_of (fun h=>?_) (fun h=>?_)|refine gT_of (fun h=>?_) (fun h=>?_)|refine caseTn_of (fun h=>?_) (fun h=>?_)|refine caseT_of (fun h=>?_) (fun h=>?_)|refine fin_pure ?_ ?_ ?_ ?_|refine kv_ifn ?_ ?_|refine kv_if ?_ ?_|refine k_if ?_ ?_|simp -implicitDefEqProofs only [F140,qA,doLd,doSt,splice,doEqs,qU,List.reduceReplicate,Nat.reduceAdd,Nat.reduceSub,Nat.reduceLeDiff,Nat.reduceEqDiff,Nat.reduceMul,reduceIte,reduceCtorEq, *]
  all_goals first
    | (simp; done)
    | exact idxF_any
    | exact idxF_any.symm
    | grind [inR_i64,wrap64,maxLen_eq,lWrong]

def F129:AFn:=⟨8,(.seq (.reg [o1 2 (.mv (.const .slnil))]) (.seq (.seq (.reg [o1 3 (.mv 0),o1 4 (.eqn false 3)]) (.cond 4 (.seq (.reg [o1 2 (.mv (.const .slnil))]) .ret) .skip)) (.seq (.reg [o1 5 (.bslice 3 1 0 []),o1 6 (.mv 0),o1 7 (.app 3 1 8 5 6),o1 2 (.mv 7)]) .ret))),[(2,none)]⟩
theorem x129:xf Tryz.prog 129=some F129:=by kernel_rfl
theorem con129 {l:List Int} (hl:l.length≤1000000000):Con Tryz.prog 129 [.slv 1 (l.map encI)] (.slv 1 (l.map encI),[],[]):=by
  cases l with
  | nil =>
    refine con_nil ?_ ?_
    all_goals refine mcb_of_vc mix x129 (by simp [F129]) fun hw _=>?_
    repeat' with_reducible first|refine gTn_of (fun h=>?_) (fun h=>?_)|refine gT_of (fun h=>?_) (fun h=>?_)|refine caseTn_of (fun h=>?_) (fun h=>?_)|refine caseT_of (fun h=>?_) (fun h=>?_)|refine fin_all ?_ ?_ ?_ rfl ?_|refine kv_ifn ?_ ?_|refine kv_if ?_ ?_|refine k_if ?_ ?_|refine ap_of (rw_slv _ _ _) (m_get_same _ _ _) rfl ?_ ?_ ?_|refine ap_of (rw_nil _ _) (m_get_same _ _ _) rfl ?_ ?_ ?_|refine ap_of (rw_sle _ _ _) (m_get_same _ _ _) rfl ?_ ?_ ?_|simp -implicitDefEqProofs only [F129,qA,doLd,doSt,splice,doEqs,qU,List.reduceReplicate,Nat.reduceAdd,Nat.reduceSub,Nat.reduceLeDiff,Nat.reduceEqDiff,Nat.reduceMul,reduceIte,reduceCtorEq,en_nil,en_sle,en_cons,ng_f,ng_t,doBslice,rw_nil,rw_sle,rw_slv, *]
    all_goals first
      | exact Wk.nil _
      | (simp [pureB,puress,pure_encI,puress_map pure_encI]; done)
      | (simp at hl ⊢; omega)
      | (refine Wk.of_eq ?_; simp [stT,AV.tr,frzS,AM.get,take_mapl]; done)
  | cons x l =>
    refine mcb_of_vc mix x129 (by simp [F129]) fun hw _=>?_
    repeat' with_reducible first|refine gTn_of (fun h=>?_) (fun h=>?_)|refine gT_of (fun h=>?_) (fun h=>?_)|refine caseTn_of (fun h=>?_) (fun h=>?_)|refine caseT_of (fun h=>?_) (fun h=>?_)|refine fin_all ?_ ?_ ?_ rfl ?_|refine kv_ifn ?_ ?_|refine kv_if ?_ ?_|refine k_if ?_ ?_|refine ap_of (rw_slv _ _ _) (m_get_same _ _ _) rfl ?_ ?_ ?_|refine ap_of (rw_nil _ _) (m_get_same _ _ _) rfl ?_ ?_ ?_|refine ap_of (rw_sle _ _ _) (m_get_same _ _ _) rfl ?_ ?_ ?_|simp -implicitDefEqProofs only [F129,qA,doLd,doSt,splice,doEqs,qU,List.reduceReplicate,Nat.reduceAdd,Nat.reduceSub,Nat.reduceLeDiff,Nat.reduceEqDiff,Nat.reduceMul,reduceIte,reduceCtorEq,en_nil,en_sle,en_cons,ng_f,ng_t,doBslice,rw_nil,rw_sle,rw_slv, *]
    all_goals first
      | exact Wk.nil _
      | (simp [pureB,puress,pure_encI,puress_map pure_encI]; done)
      | (simp at hl ⊢; omega)
      | (refine Wk.of_eq ?_; simp [stT,AV.tr,frzS,AM.get,take_mapl]; done)

def F130:AFn:=⟨8,(.seq (.reg [o1 2 (.mv (.const .slnil))]) (.seq (.seq (.reg [o1 3 (.mv 0),o1 4 (.eqn false 3)]) (.cond 4 (.seq (.reg [o1 2 (.mv (.const .slnil))]) .ret) .skip)) (.seq (.reg [o1 5 (.bslice 42 11 0 []),o1 6 (.mv 0),o1 7 (.app 42 11 88 5 6),o1 2 (.mv 7)]) .ret))),[(2,none)]⟩
theorem x130:xf Tryz.prog 130=some F130:=by kernel_rfl
theorem con130 {l:List Thread} (hl:l.length≤1000000000):Con Tryz.prog 130 [.slv 11 (l.map encT)] (.slv 11 (l.map encT),[],[]):=by
  cases l with
  | nil =>
    refine con_nil ?_ ?_
    all_goals refine mcb_of_vc mix x130 (by simp [F130]) fun hw _=>?_
    repeat' with_reducible first|refine gTn_of (fun h=>?_) (fun h=>?_)|refine gT_of (fun h=>?_) (fun h=>?_)|refine caseTn_of (fun h=>?_) (fun h=>?_)|refine caseT_of (fun h=>?_) (fun h=>?_)|refine fin_all ?_ ?_ ?_ rfl ?_|refine kv_ifn ?_ ?_|refine kv_if ?_ ?_|refine k_if ?_ ?_|refine ap_of (rw_slv _ _ _) (m_get_same _ _ _) rfl ?_ ?_ ?_|refine ap_of (rw_nil _ _) (m_get_same _ _ _) rfl ?_ ?_ ?_|refine ap_of (rw_sle _ _ _) (m_get_same _ _ _) rfl ?_ ?_ ?_|simp -implicitDefEqProofs only [F130,qA,doLd,doSt,splice,doEqs,qU,List.reduceReplicate,Nat.reduceAdd,Nat.reduceSub,Nat.reduceLeDiff,Nat.reduceEqDiff,Nat.reduceMul,reduceIte,reduceCtorEq,en_nil,en_sle,en_cons,ng_f,ng_t,doBslice,rw_nil,rw_sle,rw_slv, *]
    all_goals first
      | exact Wk.nil _
      | (simp [pureB,puress,pure_encT,puress_map pure_encT]; done)
      | (simp at hl ⊢; omega)
      | (refine Wk.of_eq ?_; simp [stT,AV.tr,frzS,AM.get,take_mapl]; done)
  | cons x l =>
    refine mcb_of_vc mix x130 (by simp [F130]) fun hw _=>?_
    repeat' with_reducible first|refine gTn_of (fun h=>?_) (fun h=>?_)|refine gT_of (fun h=>?_) (fun h=>?_)|refine caseTn_of (fun h=>?_) (fun h=>?_)|refine caseT_of (fun h=>?_) (fun h=>?_)|refine fin_all ?_ ?_ ?_ rfl ?_|refine kv_ifn ?_ ?_|refine kv_if ?_ ?_|refine k_if ?_ ?_|refine ap_of (rw_slv _ _ _) (m_get_same _ _ _) rfl ?_ ?_ ?_|refine ap_of (rw_nil _ _) (m_get_same _ _ _) rfl ?_ ?_ ?_|refine ap_of (rw_sle _ _ _) (m_get_same _ _ _) rfl ?_ ?_ ?_|simp -implicitDefEqProofs only [F130,qA,doLd,doSt,splice,doEqs,qU,List.reduceReplicate,Nat.reduceAdd,Nat.reduceSub,Nat.reduceLeDiff,Nat.reduceEqDiff,Nat.reduceMul,reduceIte,reduceCtorEq,en_nil,en_sle,en_cons,ng_f,ng_t,doBslice,rw_nil,rw_sle,rw_slv, *]
    all_goals first
      | exact Wk.nil _
      | (simp [pureB,puress,pure_encT,puress_map pure_encT]; done)
      | (simp at hl ⊢; omega)
      | (refine Wk.of_eq ?_; simp [stT,AV.tr,frzS,AM.get,take_mapl]; done)

def F128:AFn:=⟨8,(.seq (.reg [o1 2 (.mv (.const .slnil))]) (.seq (.seq (.reg [o1 3 (.mv 0),o1 4 (.eqn false 3)]) (.cond 4 (.seq (.reg [o1 2 (.mv (.const .slnil))]) .ret) .skip)) (.seq (.reg [o1 5 (.bslice 107 2 0 []),o1 6 (.mv 0),o1 7 (.app 107 2 16 5 6),o1 2 (.mv 7)]) .ret))),[(2,none)]⟩
theorem x128:xf Tryz.prog 128=some F128:=by kernel_rfl
theorem con128 {l:List Slot} (hl:l.length≤1000000000):Con Tryz.prog 128 [.slv 2 (l.map encS)] (.slv 2 (l.map encS),[],[]):=by
  cases l with
  | nil =>
    refine con_nil ?_ ?_
    all_goals refine mcb_of_vc mix x128 (by simp [F128]) fun hw _=>?_
    repeat' with_reducible first|refine gTn_of (fun h=>?_) (fun h=>?_)|refine gT_of (fun h=>?_) (fun h=>?_)|refine caseTn_of (fun h=>?_) (fun h=>?_)|refine caseT_of (fun h=>?_) (fun h=>?_)|refine fin_all ?_ ?_ ?_ rfl ?_|refine kv_ifn ?_ ?_|refine kv_if ?_ ?_|refine k_if ?_ ?_|refine ap_of (rw_slv _ _ _) (m_get_same _ _ _) rfl ?_ ?_ ?_|refine ap_of (rw_nil _ _) (m_get_same _ _ _) rfl ?_ ?_ ?_|refine ap_of (rw_sle _ _ _) (m_get_same _ _ _) rfl ?_ ?_ ?_|simp -implicitDefEqProofs only [F128,qA,doLd,doSt,splice,doEqs,qU,List.reduceReplicate,Nat.reduceAdd,Nat.reduceSub,Nat.reduceLeDiff,Nat.reduceEqDiff,Nat.reduceMul,reduceIte,reduceCtorEq,en_nil,en_sle,en_cons,ng_f,ng_t,doBslice,rw_nil,rw_sle,rw_slv, *]
    all_goals first
      | exact Wk.nil _
      | (simp [pureB,puress,pure_encS,puress_map pure_encS]; done)
      | (simp at hl ⊢; omega)
      | (refine Wk.of_eq ?_; simp [stT,AV.tr,frzS,AM.get,take_mapl]; done)
  | cons x l =>
    refine mcb_of_vc mix x128 (by simp [F128]) fun hw _=>?_
    repeat' with_reducible first|refine gTn_of (fun h=>?_) (fun h=>?_)|refine gT_of (fun h=>?_) (fun h=>?_)|refine caseTn_of (fun h=>?_) (fun h=>?_)|refine caseT_of (fun h=>?_) (fun h=>?_)|refine fin_all ?_ ?_ ?_ rfl ?_|refine kv_ifn ?_ ?_|refine kv_if ?_ ?_|refine k_if ?_ ?_|refine ap_of (rw_slv _ _ _) (m_get_same _ _ _) rfl ?_ ?_ ?_|refine ap_of (rw_nil _ _) (m_get_same _ _ _) rfl ?_ ?_ ?_|refine ap_of (rw_sle _ _ _) (m_get_same _ _ _) rfl ?_ ?_ ?_|simp -implicitDefEqProofs only [F128,qA,doLd,doSt,splice,doEqs,qU,List.reduceReplicate,Nat.reduceAdd,Nat.reduceSub,Nat.reduceLeDiff,Nat.reduceEqDiff,Nat.reduceMul,reduceIte,reduceCtorEq,en_nil,en_sle,en_cons,ng_f,ng_t,doBslice,rw_nil,rw_sle,rw_slv, *]
    all_goals first
      | exact Wk.nil _
      | (simp [pureB,puress,pure_encS,puress_map pure_encS]; done)
      | (simp at hl ⊢; omega)
      | (refine Wk.of_eq ?_; simp [stT,AV.tr,frzS,AM.get,take_mapl]; done)

def F131:AFn:=⟨8,(.seq (.reg [o1 2 (.mv (.const .slnil))]) (.seq (.seq (.reg [o1 3 (.mv 0),o1 4 (.eqn false 3)]) (.cond 4 (.seq (.reg [o1 2 (.mv (.const .slnil))]) .ret) .skip)) (.seq (.reg [o1 5 (.bslice 109 5 0 []),o1 6 (.mv 0),o1 7 (.app 109 5 40 5 6),o1 2 (.mv 7)]) .ret))),[(2,none)]⟩
theorem x131:xf Tryz.prog 131=some F131:=by kernel_rfl
theorem con131 {l:List Entry} (hl:l.length≤1000000000):Con Tryz.prog 131 [.slv 5 (l.map encE)] (.slv 5 (l.map encE),[],[]):=by
  cases l with
  | nil =>
    refine con_nil ?_ ?_
    all_goals refine mcb_of_vc mix x131 (by simp [F131]) fun hw _=>?_
    repeat' with_reducible first|refine gTn_of (fun h=>?_) (fun h=>?_)|refine gT_of (fun h=>?_) (fun h=>?_)|refine caseTn_of (fun h=>?_) (fun h=>?_)|refine caseT_of (fun h=>?_) (fun h=>?_)|refine fin_all ?_ ?_ ?_ rfl ?_|refine kv_ifn ?_ ?_|refine kv_if ?_ ?_|refine k_if ?_ ?_|refine ap_of (rw_slv _ _ _) (m_get_same _ _ _) rfl ?_ ?_ ?_|refine ap_of (rw_nil _ _) (m_get_same _ _ _) rfl ?_ ?_ ?_|refine ap_of (rw_sle _ _ _) (m_get_same _ _ _) rfl ?_ ?_ ?_|simp -implicitDefEqProofs only [F131,qA,doLd,doSt,splice,doEqs,qU,List.reduceReplicate,Nat.reduceAdd,Nat.reduceSub,Nat.reduceLeDiff,Nat.reduceEqDiff,Nat.reduceMul,reduceIte,reduceCtorEq,en_nil,en_sle,en_cons,ng_f,ng_t,doBslice,rw_nil,rw_sle,rw_slv, *]
    all_goals first
      | exact Wk.nil _
      | (simp [pureB,puress,pure_encE,puress_map pure_encE]; done)
      | (simp at hl ⊢; omega)
      | (refine Wk.of_eq ?_; simp [stT,AV.tr,frzS,AM.get,take_mapl]; done)
  | cons x l =>
    refine mcb_of_vc mix x131 (by simp [F131]) fun hw _=>?_
    repeat' with_reducible first|refine gTn_of (fun h=>?_) (fun h=>?_)|refine gT_of (fun h=>?_) (fun h=>?_)|refine caseTn_of (fun h=>?_) (fun h=>?_)|refine caseT_of (fun h=>?_) (fun h=>?_)|refine fin_all ?_ ?_ ?_ rfl ?_|refine kv_ifn ?_ ?_|refine kv_if ?_ ?_|refine k_if ?_ ?_|refine ap_of (rw_slv _ _ _) (m_get_same _ _ _) rfl ?_ ?_ ?_|refine ap_of (rw_nil _ _) (m_get_same _ _ _) rfl ?_ ?_ ?_|refine ap_of (rw_sle _ _ _) (m_get_same _ _ _) rfl ?_ ?_ ?_|simp -implicitDefEqProofs only [F131,qA,doLd,doSt,splice,doEqs,qU,List.reduceReplicate,Nat.reduceAdd,Nat.reduceSub,Nat.reduceLeDiff,Nat.reduceEqDiff,Nat.reduceMul,reduceIte,reduceCtorEq,en_nil,en_sle,en_cons,ng_f,ng_t,doBslice,rw_nil,rw_sle,rw_slv, *]
    all_goals first
      | exact Wk.nil _
      | (simp [pureB,puress,pure_encE,puress_map pure_encE]; done)
      | (simp at hl ⊢; omega)
      | (refine Wk.of_eq ?_; simp [stT,AV.tr,frzS,AM.get,take_mapl]; done)

def F141:AFn:=⟨21,(.seq (.reg [o1 2 (.mv (.const .slnil))]) (.seq (.seq (.reg [o1 5 (.mv 0),o1 6 (.len 5),o1 7 (.mv (ci 0))]) (.block 0 (.loop (.seq (.reg [o1 8 (.bin .lss 7 6)]) (.seq (.cond 8 .skip (.exit 0)) (.seq (.block 1 (.seq (.reg [o1 9 (.iaddr 1 5 7),o1 10 (.ld 1 false 9),o1 4 (.mv 10)]) (.seq (.reg [o1 11 (.mv 2),o1 12 (.mv 4),o1 13 (.call 196 [11,12]),o1 14 (.not 13)]) (.cond 14 (.reg [o1 15 (.mv 2),o1 16 (.mv 4),o1 17 (.bslice 3 1 1 [16]),o1 18 (.app 3 1 8 15 17),o1 2 (.mv 18)]) .skip)))) (.reg [o1 19 (.bin .add 7 (ci 1)),o1 7 (.mv 19)]))))))) (.seq (.reg [o1 20 (.mv 2),o1 2 (.mv 20)]) .ret))),[(2,none)]⟩
theorem x141:xf Tryz.prog 141=some F141:=by kernel_rfl
theorem con141 {l:List Int} (hl:l.length≤1000000000):Con Tryz.prog 141 [.slv 1 (l.map encI)] (.slv 1 ((lU [] l).map encI),[],[]):=by
  refine mcb_of_vc mix x141 (by simp [F141]) fun hw _=>?_
  simp only [wfs,AV.wf,inR_i64,List.length_map] at hw
  simp -implicitDefEqProofs only [F141,qA,doLd,doSt,splice,doEqs,qU,List.reduceReplicate,Nat.reduceAdd,Nat.reduceSub,Nat.reduceLeDiff,Nat.reduceEqDiff,Nat.reduceMul,reduceIte,reduceCtorEq,encI,Int.toNat_natCast,Int.natCast_zero,lm_normal,lm_exit,lm_ret,rw_slv,doBslice,Nat.zero_le,if_pos rfl,List.cons_ne_nil,take_mapl,List.length_map]
  refine lm_of 4 (fun s:Nat×List Int=>[some (.slv 1 (l.map encI)),none,some (if s.2=[] then .slnil else .slm 2 s.2.length),none,none,some (.slv 1 (l.map encI)),some (.int .i64 l.length),some (.int .i64 s.1),none,none,none,none,none,none,none,none,none,none,none,none,none]) (fun s=>if s.2=[] then [] else [(2,.rows 3 1 (s.2.map encI))]) (fun s=>s.1≤l.length∧s.2.length≤s.1∧lU s.2 (l.drop s.1)=lU [] l) (fun s=>l.length - s.1) [] [] (0,[]) (by omega) ?_ ?_ ?_ ?_ ?_ ?_
  rotate_right
  · rintro ⟨i,out⟩ ⟨hJ1,hJ2,hJ3⟩
    simp only [all_some,all_none,all_nil]
    intros
    by_cases hne:out=[]
    · subst hne
      simp -implicitDefEqProofs only [if_true]
      simp only [] at hJ1 hJ2 hJ3
      repeat' with_reducible first|refine gTn_of (fun h=>?_) (fun h=>?_)|refine gT_of (fun h=>?_) (fun h=>?_)|refine caseTn_of (fun h=>?_) (fun h=>?_)|refine caseT_of (fun h=>?_) (fun h=>?_)|refine fin_all ?_ ?_ ?_ rfl ?_|refine kv_ifn ?_ ?_|refine kv_if ?_ ?_|refine k_if ?_ ?_|refine ia_of (d:=default) ?_ ?_|refine AC.view [2] ?_ ?_ ?_|refine ACV.of (con196 (l:=o :: out)) ?_ ?_ ?_|refine ACV.of (con_w0 (con196 (l:=[]))) ?_ ?_ ?_|simp -implicitDefEqProofs only [F141,qA,doLd,doSt,splice,doEqs,qU,List.reduceReplicate,Nat.reduceAdd,Nat.reduceSub,Nat.reduceLeDiff,Nat.reduceEqDiff,Nat.reduceMul,reduceIte,reduceCtorEq,encI,Int.toNat_natCast,Int.natCast_zero,lm_normal,lm_exit,lm_ret,rw_slv,doBslice,Nat.zero_le,if_pos rfl,List.cons_ne_nil,take_mapl,List.length_map, *]
      all_goals first
        | (simp; done)
        | (refine rm_of [] [(180,2)] (i+1,[l.getD i default]) ?_ ?_ ?_ ?_ ?_ ?_ <;> first | (simp [stOk,zPure,stM,nameT,lk,Blk.tr,trss_append,trss,trs,AV.tr,encI,trss_enc _ pure_encI]; done) | (simp [trs,AV.tr,Mt,trss_enc _ pure_encI,stT,nameT,lk]; grind [wrap64,maxLen_eq]) | grind [lU_drop])
        | (refine rm_of [] [] (i+1,[]) ?_ ?_ ?_ ?_ ?_ ?_ <;> first | (simp [stOk,zPure,stM,nameT,lk,Blk.tr,trss_append,trss,trs,AV.tr,encI,trss_enc _ pure_encI]; done) | (simp [trs,AV.tr,Mt,trss_enc _ pure_encI,stT,nameT,lk]; grind [wrap64,maxLen_eq]) | grind [lU_drop])
        | (refine rm_of [] [(2,2)] (i+1,[]) ?_ ?_ ?_ ?_ ?_ ?_ <;> first | (simp [stOk,zPure,stM,nameT,lk,Blk.tr,trss_append,trss,trs,AV.tr,encI,trss_enc _ pure_encI]; done) | (simp [trs,AV.tr,Mt,trss_enc _ pure_encI,stT,nameT,lk]; grind [wrap64,maxLen_eq]) | grind [lU_drop])
        | (simp [pureB,puress_map pure_encI]; done)
        | (have hi:i=l.length:=by grind
           subst hi
           simp only [List.drop_length,lU] at hJ3
           rw [← hJ3]
           first | exact Wk.nil _ | (refine Wk.of_eq ?_; simp [take_mapl]; done))
        | grind [inR_i64,wrap64,maxLen_eq,lU,List.drop_length]
        | trace_state
    · simp -implicitDefEqProofs only [if_neg hne]
      simp only [] at hJ1 hJ2 hJ3
      repeat' with_reducible first|refine gTn_of (fun h=>?_) (fun h=>?_)|refine gT_of (fun h=>?_) (fun h=>?_)|refine caseTn_of (fun h=>?_) (fun h=>?_)|refine caseT_of (fun h=>?_) (fun h=>?_)|refine fin_all ?_ ?_ ?_ rfl ?_|refine kv_ifn ?_ ?_|refine kv_if ?_ ?_|refine k_if ?_ ?_|refine ia_of (d:=default) ?_ ?_|refine AC.view [2] ?_ ?_ ?_|refine ACV.of (con196 (l:=out)) ?_ ?_ ?_|refine ACV.of (con_w0 (con196 (l:=[]))) ?_ ?_ ?_|simp -implicitDefEqProofs only [F141,qA,doLd,doSt,splice,doEqs,qU,List.reduceReplicate,Nat.reduceAdd,Nat.reduceSub,Nat.reduceLeDiff,Nat.reduceEqDiff,Nat.reduceMul,reduceIte,reduceCtorEq,encI,Int.toNat_natCast,Int.natCast_zero,lm_normal,lm_exit,lm_ret,rw_slv,doBslice,Nat.zero_le,if_pos rfl,List.cons_ne_nil,take_mapl,List.length_map, *]
      all_goals first
        | (simp; done)
        | (refine rm_of [] [(180,2)] (i+1,out ++ [l.getD i default]) ?_ ?_ ?_ ?_ ?_ ?_ <;> first | (simp [stOk,zPure,stM,nameT,lk,Blk.tr,trss_append,trss,trs,AV.tr,encI,trss_enc _ pure_encI,hne]; done) | (simp [trs,AV.tr,Mt,trss_enc _ pure_encI,stT,nameT,lk,hne]; grind [wrap64,maxLen_eq]) | grind [lU_drop])
        | (refine rm_of [] [] (i+1,[]) ?_ ?_ ?_ ?_ ?_ ?_ <;> first | (simp [stOk,zPure,stM,nameT,lk,Blk.tr,trss_append,trss,trs,AV.tr,encI,trss_enc _ pure_encI,hne]; done) | (simp [trs,AV.tr,Mt,trss_enc _ pure_encI,stT,nameT,lk,hne]; grind [wrap64,maxLen_eq]) | grind [lU_drop])
        | (refine rm_of [] [(2,2)] (i+1,out) ?_ ?_ ?_ ?_ ?_ ?_ <;> first | (simp [stOk,zPure,stM,nameT,lk,Blk.tr,trss_append,trss,trs,AV.tr,encI,trss_enc _ pure_encI,hne]; done) | (simp [trs,AV.tr,Mt,trss_enc _ pure_encI,stT,nameT,lk,hne]; grind [wrap64,maxLen_eq]) | grind [lU_drop])
        | (simp [pureB,puress_map pure_encI]; done)
        | (have hi:i=l.length:=by grind
           subst hi
           simp only [List.drop_length,lU] at hJ3
           rw [← hJ3]
           first | exact Wk.nil _ | (refine Wk.of_eq ?_; simp [take_mapl]; done))
        | grind [inR_i64,wrap64,maxLen_eq,lU,List.drop_length]
        | trace_state
  all_goals first
    | (simp; done)
    | (simp [stOk,zPure,stM,trs,AV.tr,Mt,trss_enc _ pure_encI]; done)

def F100:AFn:=⟨16,(.seq (.reg [o1 2 (.mv (.const (.bool false)))]) (.seq (.reg [o1 3 (.mv (.func 140))]) (.seq (.reg [o1 4 (.mv 0),o1 5 (.mv 3),o1 6 (.call 101 [4,5]),o1 7 (.not 6),o1 8 (.mv 7),o3 9 (.mv 0) 8,o3 10 (.call 141 [9]) 8,o3 11 (.len 10) 8,o3 12 (.mv 0) 8,o3 13 (.len 12) 8,o3 14 (.bin .eql 11 13) 8,o1 15 (.pick 8 14 (.const (.bool false))),o1 2 (.mv 15)]) .ret))),[(2,none)]⟩
theorem x100:xf Tryz.prog 100=some F100:=by kernel_rfl
theorem con100  {l:List Int} (hl:l.length≤1000000000):Con Tryz.prog 100 [.slv 1 (l.map encI)] ((.bool (lCheck l)),[],[]):=by
  refine mcb_of_vc mix x100 (by simp [F100]) fun hw _=>?_
  simp only [wfs,AV.wf,inR_i64] at hw
  repeat' with_reducible first|refine gTn_of (fun h=>?_) (fun h=>?_)|refine gT_of (fun h=>?_) (fun h=>?_)|refine caseTn_of (fun h=>?_) (fun h=>?_)|refine caseT_of (fun h=>?_) (fun h=>?_)|refine fin_pure ?_ ?_ ?_ ?_|refine kv_ifn ?_ ?_|refine kv_if ?_ ?_|refine k_if ?_ ?_|refine P0 (con101 (p:=lWrong) (caps:=[]) rfl (fun x _=>con140)) ?_ ?_ ?_|refine P0 (con141 ?_) ?_ ?_ ?_|refine ACV.of (con141 ?_) ?_ ?_ ?_|refine ACK.of (con141 ?_) ?_ ?_|simp -implicitDefEqProofs only [F100,qA,doLd,doSt,splice,doEqs,qU,List.reduceReplicate,Nat.reduceAdd,Nat.reduceSub,Nat.reduceLeDiff,Nat.reduceEqDiff,Nat.reduceMul,reduceIte,reduceCtorEq, *]
  all_goals first
    | (simp; done)
    | exact idxF_any
    | exact idxF_any.symm
    | grind [inR_i64,wrap64,maxLen_eq,lCheck]

def F137:AFn:=⟨11,(.seq (.reg [o1 4 (.mv (ci 0))]) (.seq (.seq (.reg [o1 5 (.mv 0),o1 6 (.call 100 [5]),o1 7 (.not 6)]) (.cond 7 (.seq (.reg [o1 4 (.mv (ci (-1)))]) .ret) .skip)) (.seq (.reg [o1 8 (.mv 0),o1 9 (.mv 1),o1 10 (.call 195 [8,9]),o1 4 (.mv 10)]) .ret))),[(4,none)]⟩
theorem x137:xf Tryz.prog 137=some F137:=by kernel_rfl
theorem con137 {id:Int} {l:List Int} (hl:l.length≤1000000000):Con Tryz.prog 137 [.slv 1 (l.map encI),.int .i64 id] ((.int .i64 (lPlace l id)),[],[]):=by
  refine mcb_of_vc mix x137 (by simp [F137]) fun hw _=>?_
  simp only [wfs,AV.wf,inR_i64] at hw
  repeat' with_reducible first|refine gTn_of (fun h=>?_) (fun h=>?_)|refine gT_of (fun h=>?_) (fun h=>?_)|refine caseTn_of (fun h=>?_) (fun h=>?_)|refine caseT_of (fun h=>?_) (fun h=>?_)|refine fin_pure ?_ ?_ ?_ ?_|refine kv_ifn ?_ ?_|refine kv_if ?_ ?_|refine k_if ?_ ?_|refine P0 (con100 ?_) ?_ ?_ ?_|refine ACV.of (con100 ?_) ?_ ?_ ?_|refine ACK.of (con100 ?_) ?_ ?_|refine P0 (con195) ?_ ?_ ?_|refine ACV.of (con195) ?_ ?_ ?_|refine ACK.of (con195) ?_ ?_|simp -implicitDefEqProofs only [F137,qA,doLd,doSt,splice,doEqs,qU,List.reduceReplicate,Nat.reduceAdd,Nat.reduceSub,Nat.reduceLeDiff,Nat.reduceEqDiff,Nat.reduceMul,reduceIte,reduceCtorEq, *]
  all_goals first
    | (simp; done)
    | exact idxF_any
    | exact idxF_any.symm
    | grind [inR_i64,wrap64,maxLen_eq,lPlace]

def F247:AFn:=⟨9,(.seq (.reg [o1 4 (.mv (.const (.bool false)))]) (.seq (.reg [o1 5 (.mv 0),o1 6 (.mv 1),o1 7 (.call 137 [5,6]),o1 8 (.bin .eql 7 (ci 0)),o1 4 (.mv 8)]) .ret)),[(4,none)]⟩
theorem x247:xf Tryz.prog 247=some F247:=by kernel_rfl
end Go.Sak
