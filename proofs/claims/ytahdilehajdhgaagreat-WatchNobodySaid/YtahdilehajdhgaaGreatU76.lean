/- Part U76 of the proofs about the program: K85, K84. Conditions: none. -/
import Derived.Test.YtahdilehajdhgaaGreatU111
import Derived.Test.YtahdilehajdhgaaGreatU33
import Derived.Test.YtahdilehajdhgaaGreatU73
import Derived.Test.YtahdilehajdhgaaGreatU51
namespace Go.Sak
open Go Go.RowKit Go.Proofs
set_option linter.unusedVariables false
set_option linter.unusedSimpArgs false
set_option maxRecDepth 10000
set_option maxHeartbeats 8000000
set_option maxHeartbeats 8000000
def Du:AFn:=⟨8,(.seq (.reg [o1 3 (.alloc 33 [(.int .i64 0),(.int .i64 0),(.int .i64 0),(.int .i64 0),(.int .i64 0),(.int .i64 0),(.bool false),(.int .i64 0),(.int .i64 0),(.int .i64 0),.slnil,.slnil,.slnil,(.int .i64 0),.slnil,(.int .i64 0),.slnil,(.int .i64 0),.slnil,.slnil]),o1 4 (.mv (ci 0))]) (.seq (.reg [o1 5 (.ld 20 true 1),o1 6 (.call 41 [5,(ci (-1))]),o1 7 (.mv 0),o2 (.st 20 3 6),o1 4 (.mv 7)]) .ret)),[(3,some (20,true)),(4,none)]⟩
theorem Pf:xf Tryz.prog 132=some Du:=by kernel_rfl
def Dv:AFn:=⟨6,(.seq (.reg [o1 0 (.mv (.const .mapnil))]) (.seq (.reg [o1 1 (.mkmap),o1 2 (.build [.fnnil] [(0,1,(.func 189))]),o2 (.mupd 1 (ci 1) 2),o1 3 (.build [.fnnil] [(0,1,(.func 190))]),o2 (.mupd 1 (ci 2) 3),o1 4 (.build [.fnnil] [(0,1,(.func 191))]),o2 (.mupd 1 (ci 3) 4),o1 5 (.mv 1),o1 0 (.mv 5)]) .ret)),[(0,none)]⟩
theorem Pg:xf Tryz.prog 133=some Dv:=by kernel_rfl
def Un:AFn:=⟨55,(.seq (.reg [o1 2 (.box 33 0),o1 4 (.alloc 33 [(.int .i64 0),(.int .i64 0),(.int .i64 0),(.int .i64 0),(.int .i64 0),(.int .i64 0),(.bool false),(.int .i64 0),(.int .i64 0),(.int .i64 0),.slnil,.slnil,.slnil,(.int .i64 0),.slnil,(.int .i64 0),.slnil,(.int .i64 0),.slnil,.slnil]),o1 5 (.mv (ci 0))]) (.seq (.reg [o1 9 (.mkfn (.func 132) [] [2]),o1 6 (.mv 9)]) (.seq (.block 0 (.seq (.reg [o1 11 (.ld 20 true 2),o1 12 (.call 18 [11]),o1 13 (.not 12),o1 10 (.mv 13)]) (.cond 10 (.seq (.reg [o1 14 (.mv 6),o1 15 (.callv 14 [(ci 20)]),o1 16 (.ext 15 0),o1 17 (.ext 15 1),o2 (.st 20 4 16),o1 5 (.mv 17)]) .ret) (.seq (.reg [o1 19 (.mv 1),o1 20 (.bin .lss 19 (ci 0)),o1 21 (.mv 20),o4 22 (.mv 1) 21,o4 23 (.faddr 18 2) 21,o4 24 (.ld 1 false 23) 21,o4 25 (.len 24) 21,o4 26 (.bin .geq 22 25) 21,o1 27 (.pick 21 (.const (.bool true)) 26),o1 18 (.mv 27)]) (.cond 18 (.seq (.reg [o1 28 (.mv 6),o1 29 (.callv 28 [(ci 123)]),o1 30 (.ext 29 0),o1 31 (.ext 29 1),o2 (.st 20 4 30),o1 5 (.mv 31)]) .ret) .skip))))) (.seq (.reg [o1 32 (.faddr 18 2),o1 33 (.ld 1 false 32),o1 34 (.mv 1),o1 35 (.iaddr 11 33 34),o1 36 (.ld 11 true 35),o1 7 (.alloc 42 [(.int .i64 0),(.int .i64 0),(.int .i64 0),(.int .i64 0),(.int .i64 0),(.int .i64 0),(.int .i64 0),(.int .i64 0),(.bool false),(.int .i64 0),(.int .i64 0)]),o2 (.st 11 7 36)]) (.seq (.seq (.reg [o1 37 (.ld 11 true 7),o1 38 (.call 124 [37]),o1 8 (.mv 38)]) (.seq (.reg [o1 39 (.mv 8),o1 40 (.bin .neq 39 (ci 0))]) (.cond 40 (.seq (.reg [o1 41 (.mv 6),o1 42 (.mv 8),o1 43 (.callv 41 [42]),o1 44 (.ext 43 0),o1 45 (.ext 43 1),o2 (.st 20 4 44),o1 5 (.mv 45)]) .ret) .skip))) (.seq (.regT [o1 46 (.call 133 []),o1 47 (.faddr 1 7),o1 48 (.ld 1 false 47),o1 49 (.call 75 [48]),o1 50 (.lkp (.agg [.fnnil]) false 46 49),o1 51 (.fld 0 1 false 50),o1 52 (.ld 20 true 2),o1 53 (.mv 1),o1 54 (.callv 51 [52,53]),o2 (.st 20 4 54),o1 5 (.mv (ci 0))] [(0,1),(0,2),(0,6),(1,6),(2,6),(3,6),(4,6)]) .ret)))))),[(4,some (20,true)),(5,none)]⟩
theorem Zb:xf Tryz.prog 83=some Un:=by kernel_rfl
end Go.Sak
