/- Part S108 of the proofs about the program: K209. Conditions: none. -/
import Derived.Test.YtahdilehajdhgaaGreatS107
import Derived.Test.YtahdilehajdhgaaGreatS101
import Derived.Test.YtahdilehajdhgaaGreatS04
import Derived.Test.YtahdilehajdhgaaGreatProg
import Derived.KernelRfl
namespace Go.Sak
open Go Go.RowKit Go.Proofs
set_option linter.unusedVariables false
set_option linter.unusedSimpArgs false
set_option maxRecDepth 10000
set_option maxHeartbeats 8000000
def F86:AFn:=⟨8,(.seq (.reg [o1 2 (.mv (.const .slnil))]) (.seq (.seq (.reg [o1 3 (.mv 0),o1 4 (.eqn false 3)]) (.cond 4 (.seq (.reg [o1 2 (.mv (.const .slnil))]) .ret) .skip)) (.seq (.reg [o1 5 (.bslice 51 2 0 []),o1 6 (.mv 0),o1 7 (.app 51 2 16 5 6),o1 2 (.mv 7)]) .ret))),[(2,none)]⟩
theorem x86:xf Tryz.prog 86=some F86:=by kernel_rfl
theorem con86 {l:List Due} (hl:l.length≤1000000000):Con Tryz.prog 86 [.slv 2 (l.map encD)] (.slv 2 (l.map encD),[],[]):=by
  cases l with
  | nil =>
    refine con_nil ?_ ?_
    all_goals refine mcb_of_vc mix x86 (by simp [F86]) fun hw _=>?_
    repeat' with_reducible first|refine gTn_of (fun h=>?_) (fun h=>?_)|refine gT_of (fun h=>?_) (fun h=>?_)|refine caseTn_of (fun h=>?_) (fun h=>?_)|refine caseT_of (fun h=>?_) (fun h=>?_)|refine fin_all ?_ ?_ ?_ rfl ?_|refine kv_ifn ?_ ?_|refine kv_if ?_ ?_|refine k_if ?_ ?_|refine ap_of (rw_slv _ _ _) (m_get_same _ _ _) rfl ?_ ?_ ?_|refine ap_of (rw_nil _ _) (m_get_same _ _ _) rfl ?_ ?_ ?_|refine ap_of (rw_sle _ _ _) (m_get_same _ _ _) rfl ?_ ?_ ?_|simp -implicitDefEqProofs only [F86,qA,doLd,doSt,splice,doEqs,qU,List.reduceReplicate,Nat.reduceAdd,Nat.reduceSub,Nat.reduceLeDiff,Nat.reduceEqDiff,Nat.reduceMul,reduceIte,reduceCtorEq,en_nil,en_sle,en_cons,ng_f,ng_t,doBslice,rw_nil,rw_sle,rw_slv, *]
    all_goals first
      | exact Wk.nil _
      | (simp [pureB,puress,pure_encD,puress_map pure_encD]; done)
      | (simp at hl ⊢; omega)
      | (refine Wk.of_eq ?_; simp [stT,AV.tr,frzS,AM.get,take_mapl]; done)
  | cons x l =>
    refine mcb_of_vc mix x86 (by simp [F86]) fun hw _=>?_
    repeat' with_reducible first|refine gTn_of (fun h=>?_) (fun h=>?_)|refine gT_of (fun h=>?_) (fun h=>?_)|refine caseTn_of (fun h=>?_) (fun h=>?_)|refine caseT_of (fun h=>?_) (fun h=>?_)|refine fin_all ?_ ?_ ?_ rfl ?_|refine kv_ifn ?_ ?_|refine kv_if ?_ ?_|refine k_if ?_ ?_|refine ap_of (rw_slv _ _ _) (m_get_same _ _ _) rfl ?_ ?_ ?_|refine ap_of (rw_nil _ _) (m_get_same _ _ _) rfl ?_ ?_ ?_|refine ap_of (rw_sle _ _ _) (m_get_same _ _ _) rfl ?_ ?_ ?_|simp -implicitDefEqProofs only [F86,qA,doLd,doSt,splice,doEqs,qU,List.reduceReplicate,Nat.reduceAdd,Nat.reduceSub,Nat.reduceLeDiff,Nat.reduceEqDiff,Nat.reduceMul,reduceIte,reduceCtorEq,en_nil,en_sle,en_cons,ng_f,ng_t,doBslice,rw_nil,rw_sle,rw_slv, *]
    all_goals first
      | exact Wk.nil _
      | (simp [pureB,puress,pure_encD,puress_map pure_encD]; done)
      | (simp at hl ⊢; omega)
      | (refine Wk.of_eq ?_; simp [stT,AV.tr,frzS,AM.get,take_mapl]; done)

theorem up_m (b:Nat):(upT 1 b).mp 1=.mapm b:=by simp [upT,upN]
def F59:AFn:=⟨48,(.seq (.reg [o1 3 (.box 51 1),o1 4 (.mv (.const .slnil)),o1 5 (.mv (ci 0))]) (.seq (.reg [o1 9 (.mv 0),o1 10 (.call 87 [9]),o1 6 (.mv 10)]) (.seq (.reg [o1 12 (.mv 6),o1 13 (.faddr 1 3),o1 14 (.ld 1 false 13),o1 15 (.lkp (.agg [(.int .i64 0),(.int .i64 0)]) true 12 14),o1 11 (.mv 15),o1 16 (.ext 11 0),o1 17 (.ext 11 1),o1 7 (.alloc 51 [(.int .i64 0),(.int .i64 0)]),o2 (.st 2 7 16),o1 8 (.mv 17)]) (.seq (.block 0 (.seq (.reg [o1 19 (.mv 0),o1 20 (.call 85 [19]),o1 21 (.not 20),o1 18 (.mv 21)]) (.cond 18 (.seq (.reg [o1 22 (.mv 0),o1 23 (.call 86 [22]),o1 4 (.mv 23),o1 5 (.mv (ci 40))]) .ret) (.seq (.reg [o1 25 (.faddr 0 3),o1 26 (.ld 1 false 25),o1 27 (.call 105 [26]),o1 28 (.not 27),o1 24 (.mv 28)]) (.cond 24 (.seq (.reg [o1 29 (.mv 0),o1 30 (.call 86 [29]),o1 4 (.mv 30),o1 5 (.mv (ci 50))]) .ret) (.seq (.reg [o1 32 (.faddr 1 3),o1 33 (.ld 1 false 32),o1 34 (.call 106 [33]),o1 35 (.not 34),o1 31 (.mv 35)]) (.cond 31 (.seq (.reg [o1 36 (.mv 0),o1 37 (.call 86 [36]),o1 4 (.mv 37),o1 5 (.mv (ci 40))]) .ret) (.seq (.reg [o1 39 (.mv 8),o1 38 (.mv 39)]) (.cond 38 (.seq (.reg [o1 40 (.mv 0),o1 41 (.call 86 [40]),o1 4 (.mv 41),o1 5 (.mv (ci 60))]) .ret) .skip))))))))) (.seq (.reg [o1 42 (.mv 6),o1 43 (.faddr 1 3),o1 44 (.ld 1 false 43),o1 45 (.ld 2 true 3),o2 (.mupd 42 44 45)]) (.seq (.reg [o1 46 (.mv 6),o1 47 (.call 88 [46]),o1 4 (.mv 47),o1 5 (.mv (ci 0))]) .ret)))))),[(4,none),(5,none)]⟩
theorem x59:xf Tryz.prog 59=some F59:=by kernel_rfl
theorem con59 {l:List Due} {d:Due} (hl:l.length≤10000):Con Tryz.prog 59 [.slv 2 (l.map encD),.agg (encD d)] (.tup [.slv 2 ((duePut l d).1.map encD),.int .i64 (duePut l d).2],[],[]):=by
  have hbl:(dueBy l).length≤l.length:=by have:=dueBy_len l []; simpa [dueBy] using this
  have hpl:(dPut (dueBy l) ⟨d.tm,d.id⟩).length≤100000:=by have:=dPut_len (dueBy l) ⟨d.tm,d.id⟩; omega
  refine mcb_of_vc mix x59 (by simp [F59]) fun hw _=>?_
  clear hw
  have zd:=qD
  have zm:=qMp
  repeat' with_reducible first|refine gTn_of (fun h=>?_) (fun h=>?_)|refine gT_of (fun h=>?_) (fun h=>?_)|refine caseTn_of (fun h=>?_) (fun h=>?_)|refine caseT_of (fun h=>?_) (fun h=>?_)|refine FN ?_ ?_ ?_ ?_ rfl ?_|refine kv_ifn ?_ ?_|refine kv_if ?_ ?_|refine k_if ?_ ?_|refine IA ?_ ?_ ?_|refine L1 ?_ ?_|refine L2 ?_ ?_|refine L3 ?_ ?_ ?_ ?_|refine L4 ?_ ?_|refine L5 ?_ ?_ ?_ ?_ ?_|refine L6 ?_ ?_ ?_ ?_ ?_|refine AC.n1 (con87 ?_) ?_ (by simp -implicitDefEqProofs only [qU,pures,AV.pure,puress_map pure_encD,pl_d,pure_encD,Bool.and_true]; done) ?_|refine AC.p0 (con85 ?_) ?_ (by simp -implicitDefEqProofs only [qU,pures,AV.pure,puress_map pure_encD,pl_d,pure_encD,Bool.and_true]; done) ?_ ?_|refine AC.p0 (con86 ?_) ?_ (by simp -implicitDefEqProofs only [qU,pures,AV.pure,puress_map pure_encD,pl_d,pure_encD,Bool.and_true]; done) ?_ ?_|refine AC.mc _ (con88i ?_) ?_ (Nat.le_refl _) (by simp -implicitDefEqProofs only [qA,ld_0,ld_pv,st_0,splice,doEqs,qU,List.reduceReplicate,Nat.reduceAdd,Nat.reduceSub,Nat.reduceLeDiff,Nat.reduceEqDiff,Nat.reduceMul,reduceIte,reduceCtorEq,qI,Nat.reduceLT,Nat.reduceBEq,qM, *]; exact rfl) (by exact rfl) ?_ ?_ ?_ ?_ ?_|refine mu_d (by simp -implicitDefEqProofs only [m_get,Nat.reduceEqDiff,reduceIte,if_true,if_false]; first|done|exact rfl) ?_|refine ml_d (by simp -implicitDefEqProofs only [m_get,Nat.reduceEqDiff,reduceIte,if_true,if_false]; first|done|exact rfl) ?_|refine P0 (con105) ?_ ?_ ?_|refine ACV.of (con105) ?_ ?_ ?_|refine ACK.of (con105) ?_ ?_|refine P0 (con106) ?_ ?_ ?_|refine ACV.of (con106) ?_ ?_ ?_|refine ACK.of (con106) ?_ ?_|simp -implicitDefEqProofs only [F59,qA,ld_0,ld_pv,st_0,splice,doEqs,qU,List.reduceReplicate,Nat.reduceAdd,Nat.reduceSub,Nat.reduceLeDiff,Nat.reduceEqDiff,Nat.reduceMul,reduceIte,reduceCtorEq,qI,Nat.reduceLT,Nat.reduceBEq,up_s,Int.toNat_natCast,encT,v_invoke,ik_s,encD,up_m,upP,upN,qMp,Int.reduceEq,Int.reduceNe, *]
  all_goals first
    | omega
    | exact hpl
    | (refine Wk.of_eq ?_; unfold duePut; simp only [*,if_true,if_false,Bool.false_eq_true,reduceCtorEq]; done)
    | trace_state

end Go.Sak
