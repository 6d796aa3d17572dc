/- Part U126 of the proofs about the program: Xh, K233. Conditions: none. -/
import Derived.Test.YtahdilehajdhgaaGreatU117
import Derived.Test.YtahdilehajdhgaaGreatU76
import Derived.Test.YtahdilehajdhgaaGreatU125
namespace Go.Sak
open Go Go.RowKit
set_option linter.unusedVariables false
end Go.Sak
namespace Go.Sak
open Go Go.RowKit Go.Proofs
set_option linter.unusedVariables false
set_option linter.unusedSimpArgs false
set_option maxRecDepth 10000
set_option maxHeartbeats 8000000
def Dk:AFn:=⟨19,(.seq (.reg [o1 2 (.box 102 0),o1 3 (.box 33 1),o1 4 (.alloc 33 [(.int .i64 0),(.int .i64 0),(.int .i64 0),(.int .i64 0),(.int .i64 0),(.int .i64 0),(.bool false),(.int .i64 0),(.int .i64 0),(.int .i64 0),.slnil,.slnil,.slnil,(.int .i64 0),.slnil,(.int .i64 0),.slnil,(.int .i64 0),.slnil,.slnil]),o1 5 (.mv (ci 0))]) (.seq (.reg [o1 10 (.ld 20 true 3),o1 11 (.faddr 2 2),o1 12 (.ld 1 false 11),o1 13 (.call 16 [10,12]),o1 9 (.mv 13),o1 14 (.ext 9 0),o1 15 (.ext 9 1),o1 16 (.ext 9 2),o1 6 (.alloc 33 [(.int .i64 0),(.int .i64 0),(.int .i64 0),(.int .i64 0),(.int .i64 0),(.int .i64 0),(.bool false),(.int .i64 0),(.int .i64 0),(.int .i64 0),.slnil,.slnil,.slnil,(.int .i64 0),.slnil,(.int .i64 0),.slnil,(.int .i64 0),.slnil,.slnil]),o2 (.st 20 6 14),o1 7 (.mv 15),o1 8 (.mv 16)]) (.seq (.reg [o1 17 (.ld 20 true 6),o1 18 (.mv 8),o2 (.st 20 4 17),o1 5 (.mv 18)]) .ret))),[(4,some (20,true)),(5,none)]⟩
theorem Ou:xf Tryz.prog 107=some Dk:=by kernel_rfl
def Dl:AFn:=⟨12,(.seq (.reg [o1 2 (.box 102 0),o1 3 (.box 33 1),o1 4 (.alloc 33 [(.int .i64 0),(.int .i64 0),(.int .i64 0),(.int .i64 0),(.int .i64 0),(.int .i64 0),(.bool false),(.int .i64 0),(.int .i64 0),(.int .i64 0),.slnil,.slnil,.slnil,(.int .i64 0),.slnil,(.int .i64 0),.slnil,(.int .i64 0),.slnil,.slnil]),o1 5 (.mv (ci 0))]) (.seq (.reg [o1 6 (.ld 20 true 3),o1 7 (.faddr 1 2),o1 8 (.ld 1 false 7),o1 9 (.call 83 [6,8]),o1 10 (.ext 9 0),o1 11 (.ext 9 1),o2 (.st 20 4 10),o1 5 (.mv 11)]) .ret)),[(4,some (20,true)),(5,none)]⟩
theorem Ov:xf Tryz.prog 108=some Dl:=by kernel_rfl
def Uc:AFn:=⟨21,(.seq (.reg [o1 2 (.box 102 0),o1 3 (.box 33 1),o1 4 (.alloc 33 [(.int .i64 0),(.int .i64 0),(.int .i64 0),(.int .i64 0),(.int .i64 0),(.int .i64 0),(.bool false),(.int .i64 0),(.int .i64 0),(.int .i64 0),.slnil,.slnil,.slnil,(.int .i64 0),.slnil,(.int .i64 0),.slnil,(.int .i64 0),.slnil,.slnil]),o1 5 (.mv (ci 0))]) (.seq (.reg [o1 6 (.ld 20 true 3),o1 7 (.faddr 1 2),o1 8 (.ld 1 false 7),o1 9 (.faddr 0 2),o1 10 (.ld 1 false 9),o1 11 (.faddr 2 2),o1 12 (.ld 1 false 11),o1 13 (.faddr 17 3),o1 14 (.ld 1 false 13),o1 15 (.faddr 3 2),o1 16 (.ld 1 false 15),o1 17 (.bin .add 14 16),o1 18 (.call 37 [6,8,10,12,17]),o1 19 (.ext 18 0),o1 20 (.ext 18 1),o2 (.st 20 4 19),o1 5 (.mv 20)]) .ret)),[(4,some (20,true)),(5,none)]⟩
theorem Yq:xf Tryz.prog 61=some Uc:=by kernel_rfl
def Tq:AFn:=⟨31,(.seq (.reg [o1 2 (.box 33 0),o1 3 (.box 54 1),o1 4 (.alloc 33 [(.int .i64 0),(.int .i64 0),(.int .i64 0),(.int .i64 0),(.int .i64 0),(.int .i64 0),(.bool false),(.int .i64 0),(.int .i64 0),(.int .i64 0),.slnil,.slnil,.slnil,(.int .i64 0),.slnil,(.int .i64 0),.slnil,(.int .i64 0),.slnil,.slnil]),o1 5 (.mv (ci 0))]) (.seq (.seq (.reg [o1 9 (.ld 4 true 3),o1 10 (.call 27 [9]),o1 6 (.mv 10)]) (.seq (.reg [o1 11 (.mv 6),o1 12 (.bin .neq 11 (ci 0))]) (.cond 12 (.seq (.reg [o1 13 (.ld 20 true 2),o1 14 (.call 41 [13,(ci (-1))]),o1 15 (.mv 6),o2 (.st 20 4 14),o1 5 (.mv 15)]) .ret) .skip))) (.seq (.regT [o1 17 (.call 60 []),o1 18 (.faddr 0 3),o1 19 (.ld 1 false 18),o1 20 (.lkp .fnnil true 17 19),o1 16 (.mv 20),o1 21 (.ext 16 0),o1 22 (.ext 16 1),o1 7 (.mv 21),o1 8 (.mv 22)] [(0,1),(0,2)]) (.seq (.seq (.reg [o1 23 (.mv 8),o1 24 (.not 23)]) (.cond 24 (.reg [o1 7 (.mv (.func 61))]) .skip)) (.seq (.reg [o1 25 (.mv 7),o1 26 (.ld 4 true 3),o1 27 (.ld 20 true 2),o1 28 (.callv 25 [26,27]),o1 29 (.ext 28 0),o1 30 (.ext 28 1),o2 (.st 20 4 29),o1 5 (.mv 30)]) .ret))))),[(4,some (20,true)),(5,none)]⟩
theorem Yf:xf Tryz.prog 25=some Tq:=by kernel_rfl
end Go.Sak
