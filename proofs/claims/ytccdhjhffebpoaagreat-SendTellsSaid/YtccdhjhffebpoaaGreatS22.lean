/- Part S22 of the proofs about the program: K20, KW. Conditions: none. -/
import Derived.Test.YtccdhjhffebpoaaGreatS21
import Derived.Test.YtccdhjhffebpoaaGreatS04
import Derived.Test.YtccdhjhffebpoaaGreatProg
import Derived.KernelRfl
namespace Go.Sak
open Go Go.RowKit Go.Proofs
set_option linter.unusedVariables false
set_option linter.unusedSimpArgs false
set_option maxRecDepth 10000
set_option maxHeartbeats 8000000
def F68:AFn:=⟨13,(.seq (.reg [o1 2 (.mv (.const .nilp))]) (.seq (.regT [o1 3 (.mv 0),o1 4 (.nilchk 3),o1 5 (.faddr 0 4),o1 6 (.faddr 18 5),o1 7 (.ld 1 false 6),o1 8 (.mv 0),o1 9 (.nilchk 8),o1 10 (.faddr 20 9),o1 11 (.ld 1 false 10),o1 12 (.iaddr 11 7 11),o1 2 (.mv 12)] [(1,6),(2,6),(3,6),(4,6),(1,7),(2,7),(3,7),(4,7),(1,8),(2,8),(3,8),(4,8)]) .ret)),[(2,none)]⟩
theorem x68:xf Tryz.prog 68=some F68:=by kernel_rfl
theorem lf68:F68.code.lf=true:=rfl
def F143:AFn:=⟨9,(.seq (.reg [o1 2 (.mv (ci 0))]) (.seq (.reg [o1 3 (.mv 0),o1 4 (.nilchk 3),o1 5 (.faddr 0 4),o1 6 (.faddr 10 5),o1 7 (.ld 1 false 6),o1 8 (.len 7),o1 2 (.mv 8)]) .ret)),[(2,none)]⟩
theorem x143:xf Tryz.prog 143=some F143:=by kernel_rfl
theorem lf143:F143.code.lf=true:=rfl
def F138:AFn:=⟨9,(.reg [o1 4 (.mv 0),o1 5 (.call 68 [4]),o1 6 (.mv 1),o1 7 (.nilchk 5),o1 8 (.faddr 4 7),o2 (.st 1 8 6)]),[]⟩
theorem x138:xf Tryz.prog 138=some F138:=by kernel_rfl
theorem lf138:F138.code.lf=true:=rfl
def F147:AFn:=⟨28,(.seq (.regT [o1 10 (.mv 0),o1 11 (.mv 0),o1 12 (.nilchk 11),o1 13 (.faddr 0 12),o1 14 (.ld 20 true 13),o1 15 (.mv 0),o1 16 (.nilchk 15),o1 17 (.faddr 20 16),o1 18 (.ld 1 false 17),o1 19 (.mv 1),o1 20 (.mv 2),o1 21 (.mv 3),o1 22 (.call 237 [14,18,19,20,21]),o1 23 (.nilchk 10),o1 24 (.faddr 0 23),o2 (.st 20 24 22)] [(2,6),(3,6),(4,6),(2,7),(3,7),(4,7),(2,8),(3,8),(4,8)]) (.reg [o1 25 (.mv 0),o1 26 (.mv 4),o1 27 (.call 138 [25,26])])),[]⟩
theorem x147:xf Tryz.prog 147=some F147:=by kernel_rfl
theorem lf147:F147.code.lf=true:=rfl
def F140:AFn:=⟨12,(.reg [o1 4 (.mv 0),o1 5 (.mv 0),o1 6 (.call 68 [5]),o1 7 (.nilchk 6),o1 8 (.faddr 1 7),o1 9 (.ld 1 false 8),o1 10 (.mv 1),o1 11 (.call 147 [4,9,10,(ci 0),(ci 9)])]),[]⟩
theorem x140:xf Tryz.prog 140=some F140:=by kernel_rfl
theorem lf140:F140.code.lf=true:=rfl
def F141:AFn:=⟨13,(.reg [o1 2 (.mv 0),o1 3 (.call 68 [2]),o1 4 (.mv 0),o1 5 (.call 68 [4]),o1 6 (.nilchk 5),o1 7 (.faddr 7 6),o1 8 (.ld 1 false 7),o1 9 (.bin .add 8 (ci 1)),o1 10 (.mn 9 (ci 1099511627776)),o1 11 (.nilchk 3),o1 12 (.faddr 7 11),o2 (.st 1 12 10)]),[]⟩
theorem x141:xf Tryz.prog 141=some F141:=by kernel_rfl
theorem lf141:F141.code.lf=true:=rfl
def F56:AFn:=⟨21,(.seq (.regT [o1 3 (.mv 0),o1 4 (.mv 0),o1 5 (.nilchk 4),o1 6 (.faddr 0 5),o1 7 (.faddr 11 6),o1 8 (.ld 1 false 7),o1 9 (.mv 0),o1 10 (.nilchk 9),o1 11 (.faddr 20 10),o1 12 (.ld 1 false 11),o1 13 (.call 137 [8,12]),o1 2 (.mv 13),o1 14 (.ext 2 0),o1 15 (.ext 2 1),o1 16 (.nilchk 3),o1 17 (.faddr 0 16),o1 18 (.faddr 11 17),o2 (.st 1 18 14)] [(2,7),(3,7),(4,7),(5,7),(2,8),(3,8),(4,8),(5,8),(2,9),(3,9),(4,9),(5,9)]) (.reg [o1 19 (.mv 0),o1 20 (.call 138 [19,(ci 1)])])),[]⟩
theorem x56:xf Tryz.prog 56=some F56:=by kernel_rfl
theorem lf56:F56.code.lf=true:=rfl
def F57:AFn:=⟨25,(.block 0 (.seq (.regT [o1 5 (.mv 0),o1 6 (.nilchk 5),o1 7 (.faddr 0 6),o1 8 (.faddr 11 7),o1 9 (.ld 1 false 8),o1 10 (.mv 0),o1 11 (.nilchk 10),o1 12 (.faddr 20 11),o1 13 (.ld 1 false 12),o1 14 (.call 139 [9,13]),o1 4 (.mv 14)] [(1,6),(2,6),(3,6),(4,6),(1,7),(2,7),(3,7),(4,7),(1,8),(2,8),(3,8),(4,8)]) (.cond 4 (.reg [o1 15 (.mv 0),o1 16 (.call 138 [15,(ci 2)])]) (.seq (.reg [o1 18 (.mv 0),o1 19 (.call 68 [18]),o1 20 (.nilchk 19),o1 21 (.faddr 8 20),o1 22 (.ld 1 false 21),o1 17 (.mv 22)]) (.cond 17 (.reg [o1 23 (.mv 0),o1 24 (.call 140 [23,(ci 5)])]) (.reg [o1 2 (.mv 0),o1 3 (.call 141 [2])])))))),[]⟩
theorem x57:xf Tryz.prog 57=some F57:=by kernel_rfl
theorem lf57:F57.code.lf=true:=rfl
def F58:AFn:=⟨37,(.seq (.regT [o1 5 (.mv 0),o1 6 (.nilchk 5),o1 7 (.faddr 0 6),o1 8 (.faddr 7 7),o1 9 (.ld 3 true 8),o1 10 (.mv 0),o1 11 (.call 143 [10]),o1 12 (.call 142 [9,11]),o1 4 (.mv 12),o1 13 (.ext 4 0),o1 14 (.ext 4 1),o1 2 (.mv 13),o1 3 (.mv 14)] [(1,6),(2,6),(3,6),(4,6)]) (.seq (.reg [o1 15 (.mv 2)]) (.block 0 (.seq (.reg [o1 20 (.bin .eql 15 (ci 1)),o1 19 (.mv 20)]) (.cond 19 (.seq (.regT [o1 21 (.mv 0),o1 22 (.call 68 [21]),o1 23 (.mv 0),o1 24 (.nilchk 23),o1 25 (.faddr 0 24),o1 26 (.faddr 7 25),o1 27 (.faddr 1 26),o1 28 (.ld 1 false 27),o1 29 (.nilchk 22),o1 30 (.faddr 5 29),o2 (.st 1 30 28)] [(1,3),(1,4),(1,5),(1,6),(1,7)]) (.reg [o1 31 (.mv 0),o1 32 (.call 138 [31,(ci 3)])])) (.seq (.reg [o1 34 (.bin .eql 15 (ci 2)),o1 33 (.mv 34)]) (.cond 33 (.reg [o1 35 (.mv 0),o1 36 (.call 144 [35])]) (.reg [o1 16 (.mv 0),o1 17 (.mv 2),o1 18 (.call 140 [16,17])])))))))),[]⟩
theorem x58:xf Tryz.prog 58=some F58:=by kernel_rfl
theorem lf58:F58.code.lf=true:=rfl
def F144:AFn:=⟨65,(.seq (.reg [o1 3 (.mv 0),o1 4 (.call 68 [3]),o1 2 (.mv 4)]) (.block 0 (.seq (.reg [o1 8 (.mv 0),o1 9 (.nilchk 8),o1 10 (.faddr 0 9),o1 11 (.faddr 0 10),o1 12 (.faddr 2 11),o1 13 (.ld 1 false 12),o1 14 (.bin .eql 13 (ci 1)),o1 7 (.mv 14)]) (.cond 7 (.reg [o1 15 (.mv 0),o1 16 (.call 140 [15,(ci 3)])]) (.seq (.reg [o1 18 (.mv 0),o1 19 (.nilchk 18),o1 20 (.faddr 0 19),o1 21 (.faddr 0 20),o1 22 (.faddr 2 21),o1 23 (.ld 1 false 22),o1 24 (.bin .eql 23 (ci 2)),o1 17 (.mv 24)]) (.cond 17 (.seq (.reg [o1 25 (.mv 2),o1 26 (.mv 0),o1 27 (.nilchk 26),o1 28 (.faddr 0 27),o1 29 (.faddr 7 28),o1 30 (.faddr 0 29),o1 31 (.ld 1 false 30),o1 32 (.nilchk 25),o1 33 (.faddr 5 32),o2 (.st 1 33 31)]) (.reg [o1 34 (.mv 0),o1 35 (.call 138 [34,(ci 10)])])) (.seq (.reg [o1 37 (.mv 2),o1 38 (.nilchk 37),o1 39 (.faddr 1 38),o1 40 (.ld 1 false 39),o1 41 (.bin .eql 40 (ci 2)),o1 36 (.mv 41)]) (.cond 36 (.reg [o1 42 (.mv 0),o1 43 (.call 140 [42,(ci 2)])]) (.seq (.reg [o1 45 (.mv 2),o1 46 (.nilchk 45),o1 47 (.faddr 8 46),o1 48 (.ld 1 false 47),o1 44 (.mv 48)]) (.cond 44 (.reg [o1 49 (.mv 0),o1 50 (.call 140 [49,(ci 5)])]) (.seq (.regT [o1 52 (.mv 0),o1 53 (.nilchk 52),o1 54 (.faddr 0 53),o1 55 (.faddr 0 54),o1 56 (.ld 7 true 55),o1 57 (.mv 2),o1 58 (.nilchk 57),o1 59 (.faddr 7 58),o1 60 (.ld 1 false 59),o1 61 (.call 231 [56,60]),o1 62 (.bin .eql 61 (ci 2)),o1 51 (.mv 62)] [(1,6),(2,6),(3,6),(4,6),(1,7),(2,7),(3,7),(4,7),(1,8),(2,8),(3,8),(4,8)]) (.cond 51 (.reg [o1 63 (.mv 0),o1 64 (.call 138 [63,(ci 5)])]) (.reg [o1 5 (.mv 0),o1 6 (.call 141 [5])]))))))))))))),[]⟩
theorem x144:xf Tryz.prog 144=some F144:=by kernel_rfl
theorem lf144:F144.code.lf=true:=rfl
def F59:AFn:=⟨33,(.seq (.reg [o1 5 (.mv 0),o1 6 (.call 68 [5]),o1 2 (.mv 6)]) (.seq (.regT [o1 8 (.mv 0),o1 9 (.nilchk 8),o1 10 (.faddr 0 9),o1 11 (.faddr 10 10),o1 12 (.ld 1 false 11),o1 13 (.mv 2),o1 14 (.nilchk 13),o1 15 (.faddr 5 14),o1 16 (.ld 1 false 15),o1 17 (.mv 2),o1 18 (.nilchk 17),o1 19 (.faddr 2 18),o1 20 (.ld 1 false 19),o1 21 (.call 145 [12,16,20]),o1 7 (.mv 21),o1 22 (.ext 7 0),o1 23 (.ext 7 1),o1 3 (.mv 22),o1 4 (.mv 23)] [(1,6),(2,6),(3,6),(4,6),(1,7),(2,7),(3,7),(4,7),(1,8),(2,8),(3,8),(4,8),(1,10),(2,10),(3,10),(4,10),(6,10),(7,10),(8,10),(1,11),(2,11),(3,11),(4,11),(6,11),(7,11),(8,11),(1,12),(2,12),(3,12),(4,12),(6,12),(7,12),(8,12)]) (.seq (.reg [o1 24 (.mv 4),o1 25 (.bin .eql 24 (ci 0))]) (.cond 25 (.seq (.reg [o1 26 (.mv 0),o1 27 (.mv 3),o1 28 (.nilchk 26),o1 29 (.faddr 0 28),o1 30 (.faddr 10 29),o2 (.st 1 30 27)]) (.reg [o1 31 (.mv 0),o1 32 (.call 138 [31,(ci 4)])])) .skip)))),[]⟩
theorem x59:xf Tryz.prog 59=some F59:=by kernel_rfl
theorem lf59:F59.code.lf=true:=rfl
def F60:AFn:=⟨40,(.seq (.regT [o1 6 (.mv 0),o1 7 (.nilchk 6),o1 8 (.faddr 0 7),o1 9 (.faddr 7 8),o1 10 (.ld 3 true 9),o1 11 (.mv 0),o1 12 (.call 143 [11]),o1 13 (.call 146 [10,12]),o1 5 (.mv 13),o1 14 (.ext 5 0),o1 15 (.ext 5 1),o1 16 (.ext 5 2),o1 2 (.alloc 25 [(.int .i64 0),(.int .i64 0),(.int .i64 0)]),o2 (.st 3 2 14),o1 3 (.mv 15),o1 4 (.mv 16)] [(1,6),(2,6),(3,6),(4,6),(1,12),(2,12),(3,12),(4,12),(6,12),(7,12)]) (.seq (.reg [o1 17 (.mv 0),o1 18 (.ld 3 true 2),o1 19 (.nilchk 17),o1 20 (.faddr 0 19),o1 21 (.faddr 7 20),o2 (.st 3 21 18)]) (.seq (.reg [o1 22 (.mv 4)]) (.block 0 (.seq (.reg [o1 27 (.bin .eql 22 (ci 1)),o1 26 (.mv 27)]) (.cond 26 (.reg [o1 28 (.mv 0),o1 29 (.mv 0),o1 30 (.call 68 [29]),o1 31 (.nilchk 30),o1 32 (.faddr 1 31),o1 33 (.ld 1 false 32),o1 34 (.mv 4),o1 35 (.call 147 [28,33,34,(ci 0),(ci 6)])]) (.seq (.reg [o1 37 (.bin .eql 22 (ci 2)),o1 36 (.mv 37)]) (.cond 36 (.reg [o1 38 (.mv 0),o1 39 (.call 138 [38,(ci 2)])]) (.reg [o1 23 (.mv 0),o1 24 (.mv 4),o1 25 (.call 140 [23,24])]))))))))),[]⟩
theorem x60:xf Tryz.prog 60=some F60:=by kernel_rfl
theorem lf60:F60.code.lf=true:=rfl
def F61:AFn:=⟨14,(.seq (.regT [o1 2 (.mv 0),o1 3 (.call 68 [2]),o1 4 (.mv 0),o1 5 (.nilchk 4),o1 6 (.faddr 0 5),o1 7 (.faddr 13 6),o1 8 (.ld 2 true 7),o1 9 (.call 148 [8]),o1 10 (.nilchk 3),o1 11 (.faddr 6 10),o2 (.st 1 11 9)] [(1,3),(1,4),(1,5),(1,6)]) (.reg [o1 12 (.mv 0),o1 13 (.call 138 [12,(ci 7)])])),[]⟩
theorem x61:xf Tryz.prog 61=some F61:=by kernel_rfl
theorem lf61:F61.code.lf=true:=rfl
def F62:AFn:=⟨32,(.seq (.reg [o1 6 (.mv 0),o1 7 (.nilchk 6),o1 8 (.faddr 0 7),o1 9 (.faddr 15 8),o1 10 (.ld 2 true 9),o1 11 (.call 149 [10]),o1 5 (.mv 11),o1 12 (.ext 5 0),o1 13 (.ext 5 1),o1 14 (.ext 5 2),o1 2 (.alloc 29 [(.int .i64 0),.slnil]),o2 (.st 2 2 12),o1 3 (.mv 13),o1 4 (.mv 14)]) (.seq (.reg [o1 15 (.mv 0),o1 16 (.ld 2 true 2),o1 17 (.nilchk 15),o1 18 (.faddr 0 17),o1 19 (.faddr 15 18),o2 (.st 2 19 16)]) (.seq (.seq (.reg [o1 20 (.mv 4)]) (.cond 20 (.reg [o1 21 (.mv 0),o1 22 (.mv 0),o1 23 (.nilchk 22),o1 24 (.faddr 0 23),o1 25 (.ld 20 true 24),o1 26 (.mv 3),o1 27 (.call 50 [25,26]),o1 28 (.nilchk 21),o1 29 (.faddr 0 28),o2 (.st 20 29 27)]) .skip)) (.reg [o1 30 (.mv 0),o1 31 (.call 138 [30,(ci 9)])])))),[]⟩
theorem x62:xf Tryz.prog 62=some F62:=by kernel_rfl
theorem lf62:F62.code.lf=true:=rfl
def F63:AFn:=⟨29,(.seq (.regT [o1 5 (.mv 0),o1 6 (.nilchk 5),o1 7 (.faddr 0 6),o1 8 (.faddr 7 7),o1 9 (.ld 3 true 8),o1 10 (.mv 0),o1 11 (.call 143 [10]),o1 12 (.call 142 [9,11]),o1 4 (.mv 12),o1 13 (.ext 4 0),o1 14 (.ext 4 1),o1 2 (.mv 13),o1 3 (.mv 14)] [(1,6),(2,6),(3,6),(4,6)]) (.seq (.seq (.reg [o1 15 (.mv 2),o1 16 (.bin .eql 15 (ci 2)),o1 17 (.mv 16),o3 18 (.mv 0) 17,o3 19 (.call 68 [18]) 17,o3 20 (.nilchk 19) 17,o3 21 (.faddr 8 20) 17,o3 22 (.ld 1 false 21) 17,o3 23 (.not 22) 17,o1 24 (.pick 17 23 (.const (.bool false)))]) (.cond 24 (.seq (.reg [o1 25 (.mv 0),o1 26 (.call 138 [25,(ci 8)])]) .ret) .skip)) (.reg [o1 27 (.mv 0),o1 28 (.call 138 [27,(ci 2)])]))),[]⟩
theorem x63:xf Tryz.prog 63=some F63:=by kernel_rfl
theorem lf63:F63.code.lf=true:=rfl
def F64:AFn:=⟨48,(.seq (.reg [o1 5 (.mv 0),o1 6 (.call 138 [5,(ci 2)])]) (.seq (.seq (.reg [o1 7 (.mv 0),o1 8 (.call 68 [7]),o1 9 (.nilchk 8),o1 10 (.faddr 8 9),o1 11 (.ld 1 false 10)]) (.cond 11 .ret .skip)) (.seq (.regT [o1 13 (.mv 0),o1 14 (.nilchk 13),o1 15 (.faddr 0 14),o1 16 (.faddr 13 15),o1 17 (.ld 2 true 16),o1 18 (.mv 0),o1 19 (.call 68 [18]),o1 20 (.nilchk 19),o1 21 (.faddr 6 20),o1 22 (.ld 1 false 21),o1 23 (.mv 0),o1 24 (.nilchk 23),o1 25 (.faddr 20 24),o1 26 (.ld 1 false 25),o1 27 (.call 150 [17,22,26]),o1 12 (.mv 27),o1 28 (.ext 12 0),o1 29 (.ext 12 1),o1 30 (.ext 12 2),o1 2 (.alloc 29 [(.int .i64 0),.slnil]),o2 (.st 2 2 28),o1 3 (.mv 29),o1 4 (.mv 30)] [(1,6),(2,6),(3,6),(4,6),(1,7),(2,7),(3,7),(4,7),(1,8),(2,8),(3,8),(4,8),(1,9),(2,9),(3,9),(4,9),(1,11),(2,11),(3,11),(4,11),(6,11),(7,11),(8,11),(9,11),(1,12),(2,12),(3,12),(4,12),(6,12),(7,12),(8,12),(9,12),(1,13),(2,13),(3,13),(4,13),(6,13),(7,13),(8,13),(9,13),(1,19),(2,19),(3,19),(4,19),(6,19),(7,19),(8,19),(9,19),(11,19),(12,19),(13,19),(14,19)]) (.seq (.reg [o1 31 (.mv 0),o1 32 (.ld 2 true 2),o1 33 (.nilchk 31),o1 34 (.faddr 0 33),o1 35 (.faddr 13 34),o2 (.st 2 35 32)]) (.seq (.reg [o1 36 (.mv 3)]) (.cond 36 (.reg [o1 38 (.mv 0),o1 39 (.call 68 [38]),o1 40 (.mv 0),o1 41 (.call 68 [40]),o1 42 (.nilchk 41),o1 43 (.ld 11 true 42),o1 44 (.call 151 [43,(ci 2)]),o1 37 (.mv 44),o1 45 (.ext 37 0),o1 46 (.ext 37 1),o1 47 (.nilchk 39),o2 (.st 11 47 45)]) .skip)))))),[]⟩
theorem x64:xf Tryz.prog 64=some F64:=by kernel_rfl
theorem lf64:F64.code.lf=true:=rfl
def F65:AFn:=⟨30,(.seq (.regT [o1 3 (.mv 0),o1 4 (.mv 0),o1 5 (.nilchk 4),o1 6 (.faddr 0 5),o1 7 (.faddr 11 6),o1 8 (.ld 1 false 7),o1 9 (.mv 0),o1 10 (.nilchk 9),o1 11 (.faddr 20 10),o1 12 (.ld 1 false 11),o1 13 (.call 152 [8,12]),o1 2 (.mv 13),o1 14 (.ext 2 0),o1 15 (.ext 2 1),o1 16 (.nilchk 3),o1 17 (.faddr 0 16),o1 18 (.faddr 11 17),o2 (.st 1 18 14)] [(2,7),(3,7),(4,7),(5,7),(2,8),(3,8),(4,8),(5,8),(2,9),(3,9),(4,9),(5,9)]) (.reg [o1 20 (.mv 0),o1 21 (.call 68 [20]),o1 22 (.mv 0),o1 23 (.call 68 [22]),o1 24 (.nilchk 23),o1 25 (.ld 11 true 24),o1 26 (.call 153 [25]),o1 19 (.mv 26),o1 27 (.ext 19 0),o1 28 (.ext 19 1),o1 29 (.nilchk 21),o2 (.st 11 29 27)])),[]⟩
theorem x65:xf Tryz.prog 65=some F65:=by kernel_rfl
theorem lf65:F65.code.lf=true:=rfl
def F66:AFn:=⟨41,(.seq (.reg [o1 6 (.mv 0),o1 7 (.call 68 [6]),o1 8 (.nilchk 7),o1 9 (.faddr 5 8),o1 10 (.ld 1 false 9),o1 2 (.mv 10)]) (.seq (.reg [o1 11 (.mv 0),o1 12 (.nilchk 11),o1 13 (.faddr 0 12),o1 14 (.ld 20 true 13),o1 15 (.mv 2),o1 16 (.call 154 [14,15]),o1 3 (.mv 16)]) (.seq (.regT [o1 18 (.mv 0),o1 19 (.nilchk 18),o1 20 (.faddr 0 19),o1 21 (.faddr 7 20),o1 22 (.ld 3 true 21),o1 23 (.mv 0),o1 24 (.call 143 [23]),o1 25 (.mv 2),o1 26 (.call 155 [22,24,25]),o1 17 (.mv 26),o1 27 (.ext 17 0),o1 28 (.ext 17 1),o1 4 (.alloc 25 [(.int .i64 0),(.int .i64 0),(.int .i64 0)]),o2 (.st 3 4 27),o1 5 (.mv 28)] [(1,6),(2,6),(3,6),(4,6),(1,12),(2,12),(3,12),(4,12),(6,12),(8,12)]) (.seq (.reg [o1 29 (.mv 0),o1 30 (.ld 3 true 4),o1 31 (.nilchk 29),o1 32 (.faddr 0 31),o1 33 (.faddr 7 32),o2 (.st 3 33 30)]) (.seq (.seq (.reg [o1 34 (.mv 5),o1 35 (.not 34)]) (.cond 35 (.seq (.reg [o1 36 (.mv 0),o1 37 (.call 138 [36,(ci 2)])]) .ret) .skip)) (.reg [o1 38 (.mv 0),o1 39 (.mv 3),o1 40 (.call 147 [38,(ci 9),(ci 1),39,(ci 11)])])))))),[]⟩
theorem x66:xf Tryz.prog 66=some F66:=by kernel_rfl
theorem lf66:F66.code.lf=true:=rfl
def F67:AFn:=⟨27,(.seq (.seq (.regT [o1 5 (.mv 0),o1 6 (.nilchk 5),o1 7 (.faddr 0 6),o1 8 (.faddr 10 7),o1 9 (.ld 1 false 8),o1 10 (.mv 0),o1 11 (.call 68 [10]),o1 12 (.nilchk 11),o1 13 (.faddr 5 12),o1 14 (.ld 1 false 13),o1 15 (.call 156 [9,14]),o1 4 (.mv 15),o1 16 (.ext 4 0),o1 17 (.ext 4 1),o1 2 (.mv 16),o1 3 (.mv 17)] [(1,6),(2,6),(3,6),(4,6),(1,7),(2,7),(3,7),(4,7),(1,8),(2,8),(3,8),(4,8),(1,9),(2,9),(3,9),(4,9)]) (.seq (.reg [o1 18 (.mv 3),o1 19 (.bin .eql 18 (ci 0))]) (.cond 19 (.reg [o1 20 (.mv 0),o1 21 (.mv 2),o1 22 (.nilchk 20),o1 23 (.faddr 0 22),o1 24 (.faddr 10 23),o2 (.st 1 24 21)]) .skip))) (.reg [o1 25 (.mv 0),o1 26 (.call 138 [25,(ci 2)])])),[]⟩
theorem x67:xf Tryz.prog 67=some F67:=by kernel_rfl
theorem lf67:F67.code.lf=true:=rfl
def F20:AFn:=⟨33,(.seq (.reg [o1 2 (.box 33 0),o1 4 (.alloc 33 [(.int .i64 0),(.int .i64 0),(.int .i64 0),(.int .i64 0),(.int .i64 0),(.int .i64 0),(.bool false),(.int .i64 0),(.int .i64 0),(.int .i64 0),.slnil,.slnil,.slnil,(.int .i64 0),.slnil,(.int .i64 0),.slnil,(.int .i64 0),.slnil,.slnil])]) (.seq (.reg [o1 8 (.ld 20 true 2),o1 9 (.call 50 [8,(ci (-1))]),o1 5 (.alloc 33 [(.int .i64 0),(.int .i64 0),(.int .i64 0),(.int .i64 0),(.int .i64 0),(.int .i64 0),(.bool false),(.int .i64 0),(.int .i64 0),(.int .i64 0),.slnil,.slnil,.slnil,(.int .i64 0),.slnil,(.int .i64 0),.slnil,(.int .i64 0),.slnil,.slnil]),o2 (.st 20 5 9)]) (.seq (.seq (.reg [o1 10 (.ld 20 true 2),o1 11 (.mv 1),o1 12 (.call 51 [10,11]),o1 13 (.not 12)]) (.cond 13 (.seq (.reg [o1 14 (.ld 20 true 5),o2 (.st 20 4 14)]) .ret) .skip)) (.seq (.reg [o1 15 (.build [.fnnil,.fnnil,.fnnil,.fnnil,.fnnil,.fnnil,.fnnil,.fnnil,.fnnil,.fnnil,.fnnil,.fnnil] [(0,1,(.func 56)),(1,1,(.func 57)),(2,1,(.func 58)),(3,1,(.func 59)),(4,1,(.func 60)),(5,1,(.func 61)),(6,1,(.func 62)),(7,1,(.func 63)),(8,1,(.func 64)),(9,1,(.func 65)),(10,1,(.func 66)),(11,1,(.func 67))]),o1 6 (.alloc 86 [.fnnil,.fnnil,.fnnil,.fnnil,.fnnil,.fnnil,.fnnil,.fnnil,.fnnil,.fnnil,.fnnil,.fnnil]),o2 (.st 12 6 15)]) (.seq (.reg [o1 16 (.ld 20 true 5),o1 17 (.mv 1),o1 18 (.build [(.int .i64 0),(.int .i64 0),(.int .i64 0),(.int .i64 0),(.int .i64 0),(.int .i64 0),(.bool false),(.int .i64 0),(.int .i64 0),(.int .i64 0),.slnil,.slnil,.slnil,(.int .i64 0),.slnil,(.int .i64 0),.slnil,(.int .i64 0),.slnil,.slnil,(.int .i64 0)] [(0,20,16),(20,1,17)]),o1 19 (.box 88 18),o1 7 (.mv 19)]) (.seq (.reg [o1 20 (.mv 7),o1 21 (.call 68 [20]),o1 22 (.nilchk 21),o1 23 (.faddr 4 22),o1 24 (.ld 1 false 23),o1 25 (.aaddr 12 1 6 24),o1 26 (.ld 1 false 25),o1 27 (.mv 7),o1 28 (.callv 26 [27])]) (.seq (.reg [o1 29 (.mv 7),o1 30 (.nilchk 29),o1 31 (.faddr 0 30),o1 32 (.ld 20 true 31),o2 (.st 20 4 32)]) .ret))))))),[(4,some (20,true))]⟩
theorem x20:xf Tryz.prog 20=some F20:=by kernel_rfl
theorem aa_of {g r o:Nat} {k:IntKind} {i:Int} (h0:0≤i) (h1:i<12):doAaddr 12 1 (.ptr g r o) (.int k i)=some (.ptr g r (o+i.toNat)):=by
  simp only [doAaddr]
  rw [if_pos ⟨h0,by simpa using h1⟩,Nat.mul_one]
theorem tf_cfg {s:State} {i k r g:Int}:(fabTell s i k r g).cfg=s.cfg:=by unfold fabTell; split <;> rfl
theorem tf_word {s:State} {i k r g:Int}:(fabTell s i k r g).word=s.word:=by unfold fabTell; split <;> rfl
theorem tf_slots {s:State} {i k r g:Int}:(fabTell s i k r g).slots=s.slots:=by unfold fabTell; split <;> rfl
theorem tf_sends {s:State} {i k r g:Int}:(fabTell s i k r g).sends=s.sends:=by unfold fabTell; split <;> rfl
theorem tf_recvs {s:State} {i k r g:Int}:(fabTell s i k r g).recvs=s.recvs:=by unfold fabTell; split <;> rfl
theorem tf_full {s:State} {i k r g:Int}:(fabTell s i k r g).full=s.full:=by unfold fabTell; split <;> rfl
theorem tf_empty {s:State} {i k r g:Int}:(fabTell s i k r g).empty=s.empty:=by unfold fabTell; split <;> rfl
theorem tf_now {s:State} {i k r g:Int}:(fabTell s i k r g).now=s.now:=by unfold fabTell; split <;> rfl
theorem tries_of {s:State} {id:Int} (hc:fabCheck s=true) (h0:id≥0) (h1:id<s.threads.length):0≤(me s id).tries∧(me s id).tries≤1099511627776:=by
  have ha:s.threads.any (fun t=>!tCheck t)=false:=by
    simp only [fabCheck,Bool.and_eq_true,Bool.not_eq_true'] at hc
    exact hc.2
  have hm:me s id∈s.threads:=getD_mem (by omega)
  have ht:tCheck (me s id)=true:=by
    have:=List.any_eq_false.1 ha _ hm
    simpa using this
  simp only [tCheck,tPlace,within,Bool.and_eq_true,decide_eq_true_eq] at ht
  omega
theorem wrap64_tries {x:Int} (h:0≤x∧x≤1099511627776):(if 1099511627776<IntKind.wrap .i64 (x+1) then (1099511627776:Int) else IntKind.wrap .i64 (x+1))=min (x+1) 1099511627776:=by
  have:IntKind.wrap .i64 (x+1)=x+1:=by grind [wrap64]
  rw [this]; split <;> omega
theorem con20_0 {s_lg s_th:Int} {s_pol s_wt:Int} {s_spin s_yld:Int} {s_single:Bool} {s_h s_t s_m:Int} {s_slots:List Slot} {s_sends s_recvs:List Int} {s_fe:Int} {s_fl:List Int} {s_ee:Int} {s_el:List Int} {s_now:Int} {s_thr:List Thread} {s_log:List Entry} {id:Int} (h1:s_slots.length≤100000000) (h2:s_sends.length≤100000000) (h3:s_recvs.length≤100000000) (h4:s_fl.length≤100000000) (h5:s_el.length≤100000000) (h6:s_thr.length≤100000000) (h7:s_log.length≤100000000) (hI:sIs (State.mk (Config.mk s_lg s_th s_pol s_wt s_spin s_yld s_single) (Word.mk s_h s_t s_m) s_slots s_sends s_recvs (Event.mk s_fe s_fl) (Event.mk s_ee s_el) s_now s_thr s_log) id=true) (hpc:(s_thr.getD id.toNat default).pc=0):Con Tryz.prog 20 [.agg [.int .i64 s_lg,.int .i64 s_th,.int .i64 s_pol,.int .i64 s_wt,.int .i64 s_spin,.int .i64 s_yld,.bool s_single,.int .i64 s_h,.int .i64 s_t,.int .i64 s_m,.slv 2 (s_slots.map encS),.slv 1 (s_sends.map encI),.slv 1 (s_recvs.map encI),.int .i64 s_fe,.slv 1 (s_fl.map encI),.int .i64 s_ee,.slv 1 (s_el.map encI),.int .i64 s_now,.slv 11 (s_thr.map encT),.slv 5 (s_log.map encE)],.int .i64 id] (.agg (encZ (sEnter (State.mk (Config.mk s_lg s_th s_pol s_wt s_spin s_yld s_single) (Word.mk s_h s_t s_m) s_slots s_sends s_recvs (Event.mk s_fe s_fl) (Event.mk s_ee s_el) s_now s_thr s_log) id)),[],[]):=by
  have hI':=hI
  simp only [sIs,fabIs,Bool.and_eq_true,decide_eq_true_eq] at hI'
  obtain ⟨⟨⟨⟨hchk,hge⟩,hlt⟩,hruns⟩,hside⟩:=hI'
  have hid:id.toNat<s_thr.length:=by omega
  have hne:s_thr≠[]:=by intro h; subst h; simp at hlt; omega
  refine mcb_of_vc mix x20 (by simp [F20]) fun hw _=>?_
  clear hw
  repeat' with_reducible first|refine gTn_of (fun h=>?_) (fun h=>?_)|refine gT_of (fun h=>?_) (fun h=>?_)|refine caseTn_of (fun h=>?_) (fun h=>?_)|refine caseT_of (fun h=>?_) (fun h=>?_)|refine FN ?_ ?_ ?_ ?_ rfl ?_|refine kv_ifn ?_ ?_|refine kv_if ?_ ?_|refine k_if ?_ ?_|refine I2 mix x56 lf56 ?_ ?_ ?_ ?_ ?_|refine I2 mix x138 lf138 ?_ ?_ ?_ ?_ ?_|refine IA ?_ ?_ ?_|refine L1 ?_ ?_|refine L2 ?_ ?_|refine L3 ?_ ?_ ?_ ?_|refine L4 ?_ ?_|refine L5 ?_ ?_ ?_ ?_ ?_|refine L6 ?_ ?_ ?_ ?_ ?_|refine N1 (con50m ?_ ?_ ?_ ?_ ?_ ?_ ?_ hne) ?_ ?_|refine P0 (con51 ?_ ?_ ?_ ?_ ?_ ?_ ?_) ?_ ?_ ?_|refine I3 mix x68 lf68 ?_ ?_ ?_ ?_ ?_|refine I3 mix x143 lf143 ?_ ?_ ?_ ?_ ?_|refine inr_fin ?_ ?_ ?_ ?_|refine P0 (con137 ?_) ?_ ?_ ?_|refine ACV.of (con137 ?_) ?_ ?_ ?_|refine ACK.of (con137 ?_) ?_ ?_|simp -implicitDefEqProofs only [F20,qA,ld_0,ld_pv,st_0,splice,doEqs,qU,List.reduceReplicate,Nat.reduceAdd,Nat.reduceSub,Nat.reduceLeDiff,Nat.reduceEqDiff,Nat.reduceMul,reduceIte,reduceCtorEq,qI,Nat.reduceLT,Nat.reduceBEq,F56,F138,up_s,Int.toNat_natCast,encT,encX,encV,encW,hpc,hI,Int.reduceToNat,Nat.mul_one,tell_len,wake_len,aa_of,Int.reduceLE,Int.reduceLT,Int.toNat_zero,Int.toNat_one,Int.le_refl,set_set,getD_set_same,F68,F143, *]
  all_goals first
    | omega
    | (constructor <;> omega)
    | exact Wk.refl _
    | trace_state

theorem posCheck_accept {w:Word} {room:Int} (h:posCheck w room=true):posCheck (wAccept w room).1 room=true:=by
  unfold wAccept
  split
  · exact h
  · split
    · exact h
    · split
      · exact h
      · rename_i h1 h2 h3
        simp only [posFull,decide_eq_true_eq,not_or] at h3
        obtain ⟨h3,h4⟩:=h3
        simp only [posCheck,within,Bool.and_eq_true,decide_eq_true_eq] at h ⊢
        have hl:posLen ⟨w.h,w.t+1,w.m⟩≤room:=by
          simp only [posLen] at h3 h ⊢
          split at h3 <;> split <;> (try split at h3) <;> (try split) <;> omega
        omega
theorem posCheck_evict {w:Word} {room head:Int} (h:posCheck w room=true):posCheck (wEvict w room head).1 room=true:=by
  unfold wEvict
  split
  · exact h
  · rename_i h1
    simp only [not_or,posFull,decide_eq_true_eq,Classical.not_not] at h1
    obtain ⟨h0,h1,h2,h3⟩:=h1
    simp only [posCheck,within,Bool.and_eq_true,decide_eq_true_eq] at h ⊢
    have hl:posLen ⟨w.h+1,w.t,w.m⟩≤room∧w.h+1≤w.t:=by
      simp only [posLen] at h2 h3 h ⊢
      split at h3 <;> split <;> (try split at h3) <;> (try split) <;> omega
    omega
theorem fabIs_word {s:State} {id:Int} {w:Word} (h:fabIs s id=true) (hw:posCheck s.word s.slots.length=true→posCheck w s.slots.length=true):fabIs (withWord s w) id=true:=by
  have h':=h
  simp only [fabIs,fabCheck,Bool.and_eq_true] at h'
  have hp:posCheck s.word (confRoom s.cfg)=true:=h'.1.1.1.1.1.1.1.1.1.1.1.1.1.1.2
  have hlen:(s.slots.length:Int)=confRoom s.cfg:=by simpa using h'.1.1.1.1.1.1.1.1.1.1.1.1.1.2
  have e:fabCheck (withWord s w)=fabCheck s:=by
    simp only [fabCheck,withWord]
    rw [show posCheck w (confRoom s.cfg)=posCheck s.word (confRoom s.cfg) from by rw [hp,← hlen]; exact hw (by rw [hlen]; exact hp)]
    try rfl
  simp only [fabIs,e] at h ⊢
  exact h
theorem AC.via {P:Program} {κ:Ef→Prop} {m:AM} {b:Nat} (f:FuncId) {args:List AV} {Z:List Nat} (hZ:pickN 1 (nmsL args) []=Z) (hb:1≤b) (hz:zPure m Z=true) (h:ACV P f (trs (vwT m.get [] 1 Z) args) Z κ):AC P f args m b κ:=AC.view Z hb hz h
theorem vNotify_len {e:Event}:(vNotify e).1.ln.length≤e.ln.length:=by
  unfold vNotify; split
  · exact Nat.le_refl _
  · split <;> simp_all
theorem tw_cfg {s:State} {i:Int}:(fabWake s i).cfg=s.cfg:=by unfold fabWake; split <;> rfl
theorem tw_word {s:State} {i:Int}:(fabWake s i).word=s.word:=by unfold fabWake; split <;> rfl
theorem tw_slots {s:State} {i:Int}:(fabWake s i).slots=s.slots:=by unfold fabWake; split <;> rfl
theorem tw_sends {s:State} {i:Int}:(fabWake s i).sends=s.sends:=by unfold fabWake; split <;> rfl
theorem tw_recvs {s:State} {i:Int}:(fabWake s i).recvs=s.recvs:=by unfold fabWake; split <;> rfl
theorem tw_full {s:State} {i:Int}:(fabWake s i).full=s.full:=by unfold fabWake; split <;> rfl
theorem tw_empty {s:State} {i:Int}:(fabWake s i).empty=s.empty:=by unfold fabWake; split <;> rfl
theorem tw_now {s:State} {i:Int}:(fabWake s i).now=s.now:=by unfold fabWake; split <;> rfl
theorem tw_log {s:State} {i:Int}:(fabWake s i).log=s.log:=by unfold fabWake; split <;> rfl
theorem thr_pc {t:Thread} {k:Int} (h:t.pc=k):(⟨t.st,t.kind,t.val,t.untl,k,t.reg,t.seen,t.tries,t.late,t.res,t.got⟩:Thread)=t:=by subst h; rfl
theorem sIs_fab {s:State} {id:Int} (h:sIs s id=true):fabIs s id=true:=by
  simp only [sIs,Bool.and_eq_true] at h
  exact h.1.1
end Go.Sak
