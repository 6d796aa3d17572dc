/- Part U109 of the proofs about the program: K210, K211. Conditions: none. -/
import Derived.Test.YtahdilehajdhgaaGreatU106
import Derived.Test.YtahdilehajdhgaaGreatU31
import Derived.Test.YtahdilehajdhgaaGreatU16
namespace Go.Sak
open Go Go.RowKit Go.Proofs
set_option linter.unusedVariables false
set_option linter.unusedSimpArgs false
set_option maxRecDepth 10000
set_option maxHeartbeats 8000000
set_option maxHeartbeats 8000000
def Tz:AFn:=⟨28,(.seq (.reg [o1 2 (.box 29 0),o1 4 (.alloc 29 [(.int .i64 0),.slnil]),o1 5 (.mv (.const (.bool false)))]) (.seq (.reg [o1 9 (.faddr 1 2),o1 10 (.ld 1 false 9),o1 11 (.mv 1),o1 12 (.call 89 [10,11]),o1 8 (.mv 12),o1 13 (.ext 8 0),o1 14 (.ext 8 1),o1 6 (.mv 13),o1 7 (.mv 14)]) (.seq (.seq (.reg [o1 15 (.ld 2 true 2),o1 16 (.call 55 [15]),o1 17 (.not 16),o1 18 (.mv 17),o4 19 (.mv 7) 18,o4 20 (.bin .neq 19 (ci 0)) 18,o1 21 (.pick 18 (.const (.bool true)) 20)]) (.cond 21 (.seq (.reg [o1 22 (.ld 2 true 2),o1 23 (.call 90 [22]),o2 (.st 2 4 23),o1 5 (.mv (.const (.bool false)))]) .ret) .skip)) (.seq (.reg [o1 24 (.faddr 0 2),o1 25 (.ld 1 false 24),o1 26 (.mv 6),o1 27 (.build [(.int .i64 0),.slnil] [(0,1,25),(1,1,26)]),o2 (.st 2 4 27),o1 5 (.mv (.const (.bool true)))]) .ret)))),[(4,some (2,true)),(5,none)]⟩
theorem Yn:xf Tryz.prog 44=some Tz:=by kernel_rfl
end Go.Sak
