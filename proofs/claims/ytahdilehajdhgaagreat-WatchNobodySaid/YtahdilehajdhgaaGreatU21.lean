/- Part U21 of the proofs about the program: K18, K19. Conditions: none. -/
import Derived.Test.YtahdilehajdhgaaGreatU18
namespace Go.Sak
open Go Go.RowKit Go.Proofs
set_option linter.unusedVariables false
set_option linter.unusedSimpArgs false
set_option maxRecDepth 10000
set_option maxHeartbeats 8000000
def Eb:AFn:=⟨34,(.seq (.reg [o1 2 (.box 33 0),o1 4 (.mv (.const (.bool false)))]) (.seq (.seq (.reg [o1 6 (.ld 20 true 2),o1 7 (.call 18 [6]),o1 8 (.not 7),o1 9 (.mv 8),o4 10 (.mv 1) 9,o4 11 (.bin .lss 10 (ci 0)) 9,o1 12 (.pick 9 (.const (.bool true)) 11),o1 13 (.mv 12),o4 14 (.mv 1) 13,o4 15 (.faddr 18 2) 13,o4 16 (.ld 1 false 15) 13,o4 17 (.len 16) 13,o4 18 (.bin .geq 14 17) 13,o1 19 (.pick 13 (.const (.bool true)) 18)]) (.cond 19 (.seq (.reg [o1 4 (.mv (.const (.bool false)))]) .ret) .skip)) (.seq (.reg [o1 20 (.faddr 18 2),o1 21 (.ld 1 false 20),o1 22 (.mv 1),o1 23 (.iaddr 11 21 22),o1 24 (.ld 11 true 23),o1 5 (.alloc 42 [(.int .i64 0),(.int .i64 0),(.int .i64 0),(.int .i64 0),(.int .i64 0),(.int .i64 0),(.int .i64 0),(.int .i64 0),(.bool false),(.int .i64 0),(.int .i64 0)]),o2 (.st 11 5 24)]) (.seq (.reg [o1 25 (.ld 11 true 5),o1 26 (.call 124 [25]),o1 27 (.bin .eql 26 (ci 0)),o1 28 (.mv 27),o3 29 (.faddr 1 5) 28,o3 30 (.ld 1 false 29) 28,o3 31 (.call 75 [30]) 28,o3 32 (.bin .eql 31 (ci 1)) 28,o1 33 (.pick 28 32 (.const (.bool false))),o1 4 (.mv 33)]) .ret)))),[(4,none)]⟩
theorem Pt:xf Tryz.prog 221=some Eb:=by kernel_rfl
def Fp:AFn:=⟨22,(.seq (.reg [o1 2 (.box 33 0),o1 4 (.mv (ci 0))]) (.seq (.seq (.reg [o1 5 (.ld 20 true 2),o1 6 (.call 18 [5]),o1 7 (.not 6),o1 8 (.mv 7),o4 9 (.mv 1) 8,o4 10 (.bin .lss 9 (ci 0)) 8,o1 11 (.pick 8 (.const (.bool true)) 10)]) (.cond 11 (.seq (.reg [o1 4 (.mv (ci 0))]) .ret) .skip)) (.seq (.regT [o1 12 (.faddr 10 2),o1 13 (.ld 1 false 12),o1 14 (.mv 1),o1 15 (.faddr 10 2),o1 16 (.ld 1 false 15),o1 17 (.len 16),o1 18 (.call 98 [14,17]),o1 19 (.iaddr 2 13 18),o1 20 (.faddr 1 19),o1 21 (.ld 1 false 20),o1 4 (.mv 21)] [(0,3),(1,3),(0,4),(1,4),(0,5),(1,5),(0,6),(1,6)]) .ret))),[(4,none)]⟩
theorem Rx:xf Tryz.prog 258=some Fp:=by kernel_rfl
end Go.Sak
