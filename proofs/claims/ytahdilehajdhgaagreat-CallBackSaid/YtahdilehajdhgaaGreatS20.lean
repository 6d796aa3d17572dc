/- Part S20 of the proofs about the program: K17. Conditions: none. -/
import Derived.Test.YtahdilehajdhgaaGreatS18
import Derived.Test.YtahdilehajdhgaaGreatS04
import Derived.Test.YtahdilehajdhgaaGreatProg
import Derived.KernelRfl
namespace Go.Sak
open Go Go.RowKit Go.Proofs
set_option linter.unusedVariables false
set_option linter.unusedSimpArgs false
set_option maxRecDepth 10000
set_option maxHeartbeats 8000000
def F289:AFn:=⟨29,(.seq (.regT [o1 7 (.ld 1 false 1),o1 8 (.ld 1 false 2),o1 9 (.ld 1 false 3),o1 10 (.mv 0),o1 11 (.nilchk 10),o1 12 (.faddr 2 11),o1 13 (.ld 1 false 12),o1 14 (.ld 1 false 4),o1 15 (.ld 1 false 5),o1 16 (.build [(.int .i64 0),(.int .i64 0),(.int .i64 0),(.int .i64 0),(.int .i64 0)] [(0,1,8),(1,1,9),(2,1,13),(3,1,14),(4,1,15)]),o1 17 (.bslice 109 5 1 [16]),o1 18 (.app 109 5 40 7 17),o2 (.st 1 1 18)] [(0,1),(0,2),(1,2),(0,4),(1,4),(2,4),(0,5),(1,5),(2,5),(0,6),(1,6),(2,6),(0,7),(1,7),(2,7),(4,7),(5,7),(6,7),(0,8),(1,8),(2,8),(4,8),(5,8),(6,8),(7,8),(0,10)]) (.seq (.reg [o1 19 (.ld 1 false 3),o1 20 (.bin .neq 19 (ci 9))]) (.cond 20 (.regT [o1 21 (.mv 0),o1 22 (.mv 0),o1 23 (.ld 1 false 4),o1 24 (.ld 1 false 5),o1 25 (.nilchk 21),o1 26 (.faddr 9 25),o2 (.st 1 26 23),o1 27 (.nilchk 22),o1 28 (.faddr 10 27),o2 (.st 1 28 24)] [(2,3),(3,4),(3,5),(3,6)]) .skip))),[]⟩
theorem x289:xf Tryz.prog 289=some F289:=by kernel_rfl
def F279:AFn:=⟨23,(.seq (.reg [o1 5 (.box 33 0),o1 6 (.box 3 1),o1 7 (.box 3 2),o1 8 (.box 3 3),o1 9 (.box 3 4),o1 10 (.alloc 33 [(.int .i64 0),(.int .i64 0),(.int .i64 0),(.int .i64 0),(.int .i64 0),(.int .i64 0),(.bool false),(.int .i64 0),(.int .i64 0),(.int .i64 0),.slnil,.slnil,.slnil,(.int .i64 0),.slnil,(.int .i64 0),.slnil,(.int .i64 0),.slnil,.slnil])]) (.seq (.reg [o1 11 (.alloc 31 [.slnil])]) (.seq (.reg [o1 13 (.ld 20 true 5),o1 14 (.ld 1 false 6),o1 15 (.mkfn (.func 289) [] [11,6,7,8,9]),o1 16 (.call 80 [13,14,15]),o1 12 (.alloc 33 [(.int .i64 0),(.int .i64 0),(.int .i64 0),(.int .i64 0),(.int .i64 0),(.int .i64 0),(.bool false),(.int .i64 0),(.int .i64 0),(.int .i64 0),.slnil,.slnil,.slnil,(.int .i64 0),.slnil,(.int .i64 0),.slnil,(.int .i64 0),.slnil,.slnil]),o2 (.st 20 12 16)]) (.seq (.reg [o1 17 (.faddr 19 12),o1 18 (.ld 1 false 17),o1 19 (.ld 1 false 11),o1 20 (.app 109 5 40 18 19),o1 21 (.faddr 19 12),o2 (.st 1 21 20)]) (.seq (.reg [o1 22 (.ld 20 true 12),o2 (.st 20 10 22)]) .ret))))),[(10,some (20,true))]⟩
theorem x279:xf Tryz.prog 279=some F279:=by kernel_rfl
end Go.Sak
