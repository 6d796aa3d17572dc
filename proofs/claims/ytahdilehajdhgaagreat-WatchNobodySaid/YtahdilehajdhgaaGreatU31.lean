/- Part U31 of the proofs about the program: K31. Conditions: none. -/
import Derived.Test.YtahdilehajdhgaaGreatU13
namespace Go.Sak
open Go Go.RowKit Go.Proofs
set_option linter.unusedVariables false
set_option linter.unusedSimpArgs false
set_option maxRecDepth 10000
set_option maxHeartbeats 8000000
def To:AFn:=⟨26,(.seq (.reg [o1 4 (.mv (.const (.bool false)))]) (.seq (.seq (.reg [o1 6 (.mv 0),o1 7 (.len 6),o1 8 (.mv 1),o1 9 (.len 8),o1 10 (.bin .neq 7 9)]) (.cond 10 (.seq (.reg [o1 4 (.mv (.const (.bool false)))]) .ret) .skip)) (.seq (.seq (.reg [o1 5 (.mv (ci 0))]) (.block 0 (.loop (.seq (.seq (.reg [o1 11 (.mv 5),o1 12 (.mv 0),o1 13 (.len 12),o1 14 (.bin .lss 11 13)]) (.cond 14 .skip (.exit 0))) (.seq (.block 1 (.seq (.regT [o1 17 (.mv 0),o1 18 (.mv 5),o1 19 (.iaddr 1 17 18),o1 20 (.ld 1 false 19),o1 21 (.mv 1),o1 22 (.mv 5),o1 23 (.iaddr 1 21 22),o1 24 (.ld 1 false 23),o1 25 (.bin .neq 20 24)] [(2,6),(3,6),(2,7),(3,7)]) (.cond 25 (.seq (.reg [o1 4 (.mv (.const (.bool false)))]) .ret) .skip))) (.reg [o1 15 (.mv 5),o1 16 (.bin .add 15 (ci 1)),o1 5 (.mv 16)])))))) (.seq (.reg [o1 4 (.mv (.const (.bool true)))]) .ret)))),[(4,none)]⟩
theorem Po:xf Tryz.prog 19=some To:=by kernel_rfl
end Go.Sak
