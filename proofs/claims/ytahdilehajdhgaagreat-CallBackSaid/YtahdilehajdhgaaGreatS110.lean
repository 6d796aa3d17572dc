/- Part S110 of the proofs about the program: K211. Conditions: none. -/
import Derived.Test.YtahdilehajdhgaaGreatS31
import Derived.Test.YtahdilehajdhgaaGreatS16
import Derived.Test.YtahdilehajdhgaaGreatS13
import Derived.Test.YtahdilehajdhgaaGreatS107
import Derived.Test.YtahdilehajdhgaaGreatS04
import Derived.Test.YtahdilehajdhgaaGreatProg
import Derived.KernelRfl
namespace Go.Sak
open Go Go.RowKit Go.Proofs
set_option linter.unusedVariables false
set_option linter.unusedSimpArgs false
set_option maxRecDepth 10000
set_option maxHeartbeats 8000000
def F40:AFn:=⟨26,(.seq (.reg [o1 4 (.mv (.const (.bool false)))]) (.seq (.seq (.reg [o1 6 (.mv 0),o1 7 (.len 6),o1 8 (.mv 1),o1 9 (.len 8),o1 10 (.bin .neq 7 9)]) (.cond 10 (.seq (.reg [o1 4 (.mv (.const (.bool false)))]) .ret) .skip)) (.seq (.seq (.reg [o1 5 (.mv (ci 0))]) (.block 0 (.loop (.seq (.seq (.reg [o1 11 (.mv 5),o1 12 (.mv 0),o1 13 (.len 12),o1 14 (.bin .lss 11 13)]) (.cond 14 .skip (.exit 0))) (.seq (.block 1 (.seq (.regT [o1 17 (.mv 0),o1 18 (.mv 5),o1 19 (.iaddr 2 17 18),o1 20 (.ld 2 true 19),o1 21 (.mv 1),o1 22 (.mv 5),o1 23 (.iaddr 2 21 22),o1 24 (.ld 2 true 23),o1 25 (.eqs true [(.int .i64),(.int .i64)] 20 24)] [(2,6),(3,6),(2,7),(3,7)]) (.cond 25 (.seq (.reg [o1 4 (.mv (.const (.bool false)))]) .ret) .skip))) (.reg [o1 15 (.mv 5),o1 16 (.bin .add 15 (ci 1)),o1 5 (.mv 16)])))))) (.seq (.reg [o1 4 (.mv (.const (.bool true)))]) .ret)))),[(4,none)]⟩
theorem x40:xf Tryz.prog 40=some F40:=by kernel_rfl
def F44:AFn:=⟨28,(.seq (.reg [o1 2 (.box 29 0),o1 4 (.alloc 29 [(.int .i64 0),.slnil]),o1 5 (.mv (.const (.bool false)))]) (.seq (.reg [o1 9 (.faddr 1 2),o1 10 (.ld 1 false 9),o1 11 (.mv 1),o1 12 (.call 89 [10,11]),o1 8 (.mv 12),o1 13 (.ext 8 0),o1 14 (.ext 8 1),o1 6 (.mv 13),o1 7 (.mv 14)]) (.seq (.seq (.reg [o1 15 (.ld 2 true 2),o1 16 (.call 55 [15]),o1 17 (.not 16),o1 18 (.mv 17),o4 19 (.mv 7) 18,o4 20 (.bin .neq 19 (ci 0)) 18,o1 21 (.pick 18 (.const (.bool true)) 20)]) (.cond 21 (.seq (.reg [o1 22 (.ld 2 true 2),o1 23 (.call 90 [22]),o2 (.st 2 4 23),o1 5 (.mv (.const (.bool false)))]) .ret) .skip)) (.seq (.reg [o1 24 (.faddr 0 2),o1 25 (.ld 1 false 24),o1 26 (.mv 6),o1 27 (.build [(.int .i64 0),.slnil] [(0,1,25),(1,1,26)]),o2 (.st 2 4 27),o1 5 (.mv (.const (.bool true)))]) .ret)))),[(4,some (2,true)),(5,none)]⟩
theorem x44:xf Tryz.prog 44=some F44:=by kernel_rfl
theorem con44 {e_ep:Int} {e_ln:List Int} {id:Int} (hl:e_ln.length≤100000000):Con Tryz.prog 44 [.agg [.int .i64 e_ep,.slv 1 (e_ln.map encI)],.int .i64 id] ((.tup [.agg (encV ((vCancel (Event.mk e_ep e_ln) id).1)),.bool ((vCancel (Event.mk e_ep e_ln) id).2)]),[],[]):=by
  refine mcb_of_vc mix x44 (by simp [F44]) fun hw _=>?_
  simp only [wfs,AV.wf,inR_i64] at hw
  repeat' with_reducible first|refine gTn_of (fun h=>?_) (fun h=>?_)|refine gT_of (fun h=>?_) (fun h=>?_)|refine caseTn_of (fun h=>?_) (fun h=>?_)|refine caseT_of (fun h=>?_) (fun h=>?_)|refine fin_pure ?_ ?_ ?_ ?_|refine kv_ifn ?_ ?_|refine kv_if ?_ ?_|refine k_if ?_ ?_|refine P0 (con55 ?_) ?_ ?_ ?_|refine ACV.of (con55 ?_) ?_ ?_ ?_|refine ACK.of (con55 ?_) ?_ ?_|refine P0 (con90 ?_) ?_ ?_ ?_|refine ACV.of (con90 ?_) ?_ ?_ ?_|refine ACK.of (con90 ?_) ?_ ?_|refine P0 (con89 ?_) ?_ ?_ ?_|refine ACV.of (con89 ?_) ?_ ?_ ?_|refine ACK.of (con89 ?_) ?_ ?_|simp -implicitDefEqProofs only [F44,qA,doLd,doSt,splice,doEqs,qU,List.reduceReplicate,Nat.reduceAdd,Nat.reduceSub,Nat.reduceLeDiff,Nat.reduceEqDiff,Nat.reduceMul,reduceIte,reduceCtorEq,encV, *]
  all_goals first
    | (simp; done)
    | exact idxF_any
    | exact idxF_any.symm
    | grind [inR_i64,wrap64,maxLen_eq,vCancel]

end Go.Sak
