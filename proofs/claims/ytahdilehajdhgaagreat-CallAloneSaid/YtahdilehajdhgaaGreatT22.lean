/- Part T22 of the proofs about the program: K20, KW. Conditions: none. -/
import Derived.Test.YtahdilehajdhgaaGreatT21
open Bool renaming and_eq_true→D9
open Go.Proofs.Tryz renaming prog→D8
namespace Go.Sak
open Go Go.RowKit Go.Proofs
set_option linter.unusedVariables false
set_option linter.unusedSimpArgs false
set_option maxRecDepth 10000
set_option maxHeartbeats 8000000
def uM:AFn:=⟨13,(.seq (.reg [o1 2 (.mv (.const .nilp))]) (.seq (.regT [o1 3 (.mv 0),o1 4 (.nilchk 3),o1 5 (.faddr 0 4),o1 6 (.faddr 18 5),o1 7 (.ld 1 false 6),o1 8 (.mv 0),o1 9 (.nilchk 8),o1 10 (.faddr 20 9),o1 11 (.ld 1 false 10),o1 12 (.iaddr 11 7 11),o1 2 (.mv 12)] [(1,6),(2,6),(3,6),(4,6),(1,7),(2,7),(3,7),(4,7),(1,8),(2,8),(3,8),(4,8)]) .ret)),[(2,none)]⟩
theorem yR:xf D8 234=some uM:=by kernel_rfl
theorem rU:uM.code.lf=true:=rfl
def uQ:AFn:=⟨9,(.seq (.reg [o1 2 (.mv (ci 0))]) (.seq (.reg [o1 3 (.mv 0),o1 4 (.nilchk 3),o1 5 (.faddr 0 4),o1 6 (.faddr 10 5),o1 7 (.ld 1 false 6),o1 8 (.len 7),o1 2 (.mv 8)]) .ret)),[(2,none)]⟩
theorem yV:xf D8 250=some uQ:=by kernel_rfl
theorem rY:uQ.code.lf=true:=rfl
def uP:AFn:=⟨9,(.reg [o1 4 (.mv 0),o1 5 (.call 234 [4]),o1 6 (.mv 1),o1 7 (.nilchk 5),o1 8 (.faddr 4 7),o2 (.st 1 8 6)]),[]⟩
theorem yU:xf D8 246=some uP:=by kernel_rfl
theorem rX:uP.code.lf=true:=rfl
def Kl:AFn:=⟨28,(.seq (.regT [o1 10 (.mv 0),o1 11 (.mv 0),o1 12 (.nilchk 11),o1 13 (.faddr 0 12),o1 14 (.ld 20 true 13),o1 15 (.mv 0),o1 16 (.nilchk 15),o1 17 (.faddr 20 16),o1 18 (.ld 1 false 17),o1 19 (.mv 1),o1 20 (.mv 2),o1 21 (.mv 3),o1 22 (.call 279 [14,18,19,20,21]),o1 23 (.nilchk 10),o1 24 (.faddr 0 23),o2 (.st 20 24 22)] [(2,6),(3,6),(4,6),(2,7),(3,7),(4,7),(2,8),(3,8),(4,8)]) (.reg [o1 25 (.mv 0),o1 26 (.mv 4),o1 27 (.call 246 [25,26])])),[]⟩
theorem AD:xf D8 253=some Kl:=by kernel_rfl
theorem Oa:Kl.code.lf=true:=rfl
def Qf:AFn:=⟨12,(.reg [o1 4 (.mv 0),o1 5 (.mv 0),o1 6 (.call 234 [5]),o1 7 (.nilchk 6),o1 8 (.faddr 1 7),o1 9 (.ld 1 false 8),o1 10 (.mv 1),o1 11 (.call 253 [4,9,10,(ci 0),(ci 9)])]),[]⟩
theorem HJ:xf D8 248=some Qf:=by kernel_rfl
theorem Yc:Qf.code.lf=true:=rfl
def Ts:AFn:=⟨13,(.reg [o1 2 (.mv 0),o1 3 (.call 234 [2]),o1 4 (.mv 0),o1 5 (.call 234 [4]),o1 6 (.nilchk 5),o1 7 (.faddr 7 6),o1 8 (.ld 1 false 7),o1 9 (.bin .add 8 (ci 1)),o1 10 (.mn 9 (ci 1099511627776)),o1 11 (.nilchk 3),o1 12 (.faddr 7 11),o2 (.st 1 12 10)]),[]⟩
theorem MO:xf D8 249=some Ts:=by kernel_rfl
theorem IC:Ts.code.lf=true:=rfl
def BL:AFn:=⟨21,(.seq (.regT [o1 3 (.mv 0),o1 4 (.mv 0),o1 5 (.nilchk 4),o1 6 (.faddr 0 5),o1 7 (.faddr 11 6),o1 8 (.ld 1 false 7),o1 9 (.mv 0),o1 10 (.nilchk 9),o1 11 (.faddr 20 10),o1 12 (.ld 1 false 11),o1 13 (.call 245 [8,12]),o1 2 (.mv 13),o1 14 (.ext 2 0),o1 15 (.ext 2 1),o1 16 (.nilchk 3),o1 17 (.faddr 0 16),o1 18 (.faddr 11 17),o2 (.st 1 18 14)] [(2,7),(3,7),(4,7),(5,7),(2,8),(3,8),(4,8),(5,8),(2,9),(3,9),(4,9),(5,9)]) (.reg [o1 19 (.mv 0),o1 20 (.call 246 [19,(ci 1)])])),[]⟩
theorem SF:xf D8 222=some BL:=by kernel_rfl
theorem OY:BL.code.lf=true:=rfl
def BM:AFn:=⟨25,(.block 0 (.seq (.regT [o1 5 (.mv 0),o1 6 (.nilchk 5),o1 7 (.faddr 0 6),o1 8 (.faddr 11 7),o1 9 (.ld 1 false 8),o1 10 (.mv 0),o1 11 (.nilchk 10),o1 12 (.faddr 20 11),o1 13 (.ld 1 false 12),o1 14 (.call 247 [9,13]),o1 4 (.mv 14)] [(1,6),(2,6),(3,6),(4,6),(1,7),(2,7),(3,7),(4,7),(1,8),(2,8),(3,8),(4,8)]) (.cond 4 (.reg [o1 15 (.mv 0),o1 16 (.call 246 [15,(ci 2)])]) (.seq (.reg [o1 18 (.mv 0),o1 19 (.call 234 [18]),o1 20 (.nilchk 19),o1 21 (.faddr 8 20),o1 22 (.ld 1 false 21),o1 17 (.mv 22)]) (.cond 17 (.reg [o1 23 (.mv 0),o1 24 (.call 248 [23,(ci 5)])]) (.reg [o1 2 (.mv 0),o1 3 (.call 249 [2])])))))),[]⟩
theorem SG:xf D8 223=some BM:=by kernel_rfl
theorem OZ:BM.code.lf=true:=rfl
def BN:AFn:=⟨37,(.seq (.regT [o1 5 (.mv 0),o1 6 (.nilchk 5),o1 7 (.faddr 0 6),o1 8 (.faddr 7 7),o1 9 (.ld 3 true 8),o1 10 (.mv 0),o1 11 (.call 250 [10]),o1 12 (.call 74 [9,11]),o1 4 (.mv 12),o1 13 (.ext 4 0),o1 14 (.ext 4 1),o1 2 (.mv 13),o1 3 (.mv 14)] [(1,6),(2,6),(3,6),(4,6)]) (.seq (.reg [o1 15 (.mv 2)]) (.block 0 (.seq (.reg [o1 20 (.bin .eql 15 (ci 1)),o1 19 (.mv 20)]) (.cond 19 (.seq (.regT [o1 21 (.mv 0),o1 22 (.call 234 [21]),o1 23 (.mv 0),o1 24 (.nilchk 23),o1 25 (.faddr 0 24),o1 26 (.faddr 7 25),o1 27 (.faddr 1 26),o1 28 (.ld 1 false 27),o1 29 (.nilchk 22),o1 30 (.faddr 5 29),o2 (.st 1 30 28)] [(1,3),(1,4),(1,5),(1,6),(1,7)]) (.reg [o1 31 (.mv 0),o1 32 (.call 246 [31,(ci 3)])])) (.seq (.reg [o1 34 (.bin .eql 15 (ci 2)),o1 33 (.mv 34)]) (.cond 33 (.reg [o1 35 (.mv 0),o1 36 (.call 251 [35])]) (.reg [o1 16 (.mv 0),o1 17 (.mv 2),o1 18 (.call 248 [16,17])])))))))),[]⟩
theorem SH:xf D8 224=some BN:=by kernel_rfl
theorem PA:BN.code.lf=true:=rfl
def CD:AFn:=⟨65,(.seq (.reg [o1 3 (.mv 0),o1 4 (.call 234 [3]),o1 2 (.mv 4)]) (.block 0 (.seq (.reg [o1 8 (.mv 0),o1 9 (.nilchk 8),o1 10 (.faddr 0 9),o1 11 (.faddr 0 10),o1 12 (.faddr 2 11),o1 13 (.ld 1 false 12),o1 14 (.bin .eql 13 (ci 1)),o1 7 (.mv 14)]) (.cond 7 (.reg [o1 15 (.mv 0),o1 16 (.call 248 [15,(ci 3)])]) (.seq (.reg [o1 18 (.mv 0),o1 19 (.nilchk 18),o1 20 (.faddr 0 19),o1 21 (.faddr 0 20),o1 22 (.faddr 2 21),o1 23 (.ld 1 false 22),o1 24 (.bin .eql 23 (ci 2)),o1 17 (.mv 24)]) (.cond 17 (.seq (.reg [o1 25 (.mv 2),o1 26 (.mv 0),o1 27 (.nilchk 26),o1 28 (.faddr 0 27),o1 29 (.faddr 7 28),o1 30 (.faddr 0 29),o1 31 (.ld 1 false 30),o1 32 (.nilchk 25),o1 33 (.faddr 5 32),o2 (.st 1 33 31)]) (.reg [o1 34 (.mv 0),o1 35 (.call 246 [34,(ci 10)])])) (.seq (.reg [o1 37 (.mv 2),o1 38 (.nilchk 37),o1 39 (.faddr 1 38),o1 40 (.ld 1 false 39),o1 41 (.bin .eql 40 (ci 2)),o1 36 (.mv 41)]) (.cond 36 (.reg [o1 42 (.mv 0),o1 43 (.call 248 [42,(ci 2)])]) (.seq (.reg [o1 45 (.mv 2),o1 46 (.nilchk 45),o1 47 (.faddr 8 46),o1 48 (.ld 1 false 47),o1 44 (.mv 48)]) (.cond 44 (.reg [o1 49 (.mv 0),o1 50 (.call 248 [49,(ci 5)])]) (.seq (.regT [o1 52 (.mv 0),o1 53 (.nilchk 52),o1 54 (.faddr 0 53),o1 55 (.faddr 0 54),o1 56 (.ld 7 true 55),o1 57 (.mv 2),o1 58 (.nilchk 57),o1 59 (.faddr 7 58),o1 60 (.ld 1 false 59),o1 61 (.call 281 [56,60]),o1 62 (.bin .eql 61 (ci 2)),o1 51 (.mv 62)] [(1,6),(2,6),(3,6),(4,6),(1,7),(2,7),(3,7),(4,7),(1,8),(2,8),(3,8),(4,8)]) (.cond 51 (.reg [o1 63 (.mv 0),o1 64 (.call 246 [63,(ci 5)])]) (.reg [o1 5 (.mv 0),o1 6 (.call 249 [5])]))))))))))))),[]⟩
theorem SX:xf D8 251=some CD:=by kernel_rfl
theorem PL:CD.code.lf=true:=rfl
def BO:AFn:=⟨33,(.seq (.reg [o1 5 (.mv 0),o1 6 (.call 234 [5]),o1 2 (.mv 6)]) (.seq (.regT [o1 8 (.mv 0),o1 9 (.nilchk 8),o1 10 (.faddr 0 9),o1 11 (.faddr 10 10),o1 12 (.ld 1 false 11),o1 13 (.mv 2),o1 14 (.nilchk 13),o1 15 (.faddr 5 14),o1 16 (.ld 1 false 15),o1 17 (.mv 2),o1 18 (.nilchk 17),o1 19 (.faddr 2 18),o1 20 (.ld 1 false 19),o1 21 (.call 252 [12,16,20]),o1 7 (.mv 21),o1 22 (.ext 7 0),o1 23 (.ext 7 1),o1 3 (.mv 22),o1 4 (.mv 23)] [(1,6),(2,6),(3,6),(4,6),(1,7),(2,7),(3,7),(4,7),(1,8),(2,8),(3,8),(4,8),(1,10),(2,10),(3,10),(4,10),(6,10),(7,10),(8,10),(1,11),(2,11),(3,11),(4,11),(6,11),(7,11),(8,11),(1,12),(2,12),(3,12),(4,12),(6,12),(7,12),(8,12)]) (.seq (.reg [o1 24 (.mv 4),o1 25 (.bin .eql 24 (ci 0))]) (.cond 25 (.seq (.reg [o1 26 (.mv 0),o1 27 (.mv 3),o1 28 (.nilchk 26),o1 29 (.faddr 0 28),o1 30 (.faddr 10 29),o2 (.st 1 30 27)]) (.reg [o1 31 (.mv 0),o1 32 (.call 246 [31,(ci 4)])])) .skip)))),[]⟩
theorem SI:xf D8 225=some BO:=by kernel_rfl
theorem PB:BO.code.lf=true:=rfl
def BP:AFn:=⟨40,(.seq (.regT [o1 6 (.mv 0),o1 7 (.nilchk 6),o1 8 (.faddr 0 7),o1 9 (.faddr 7 8),o1 10 (.ld 3 true 9),o1 11 (.mv 0),o1 12 (.call 250 [11]),o1 13 (.call 125 [10,12]),o1 5 (.mv 13),o1 14 (.ext 5 0),o1 15 (.ext 5 1),o1 16 (.ext 5 2),o1 2 (.alloc 25 [(.int .i64 0),(.int .i64 0),(.int .i64 0)]),o2 (.st 3 2 14),o1 3 (.mv 15),o1 4 (.mv 16)] [(1,6),(2,6),(3,6),(4,6),(1,12),(2,12),(3,12),(4,12),(6,12),(7,12)]) (.seq (.reg [o1 17 (.mv 0),o1 18 (.ld 3 true 2),o1 19 (.nilchk 17),o1 20 (.faddr 0 19),o1 21 (.faddr 7 20),o2 (.st 3 21 18)]) (.seq (.reg [o1 22 (.mv 4)]) (.block 0 (.seq (.reg [o1 27 (.bin .eql 22 (ci 1)),o1 26 (.mv 27)]) (.cond 26 (.reg [o1 28 (.mv 0),o1 29 (.mv 0),o1 30 (.call 234 [29]),o1 31 (.nilchk 30),o1 32 (.faddr 1 31),o1 33 (.ld 1 false 32),o1 34 (.mv 4),o1 35 (.call 253 [28,33,34,(ci 0),(ci 6)])]) (.seq (.reg [o1 37 (.bin .eql 22 (ci 2)),o1 36 (.mv 37)]) (.cond 36 (.reg [o1 38 (.mv 0),o1 39 (.call 246 [38,(ci 2)])]) (.reg [o1 23 (.mv 0),o1 24 (.mv 4),o1 25 (.call 248 [23,24])]))))))))),[]⟩
theorem SJ:xf D8 226=some BP:=by kernel_rfl
theorem PC:BP.code.lf=true:=rfl
def BQ:AFn:=⟨14,(.seq (.regT [o1 2 (.mv 0),o1 3 (.call 234 [2]),o1 4 (.mv 0),o1 5 (.nilchk 4),o1 6 (.faddr 0 5),o1 7 (.faddr 13 6),o1 8 (.ld 2 true 7),o1 9 (.call 254 [8]),o1 10 (.nilchk 3),o1 11 (.faddr 6 10),o2 (.st 1 11 9)] [(1,3),(1,4),(1,5),(1,6)]) (.reg [o1 12 (.mv 0),o1 13 (.call 246 [12,(ci 7)])])),[]⟩
theorem SK:xf D8 227=some BQ:=by kernel_rfl
theorem PD:BQ.code.lf=true:=rfl
def BR:AFn:=⟨32,(.seq (.reg [o1 6 (.mv 0),o1 7 (.nilchk 6),o1 8 (.faddr 0 7),o1 9 (.faddr 15 8),o1 10 (.ld 2 true 9),o1 11 (.call 255 [10]),o1 5 (.mv 11),o1 12 (.ext 5 0),o1 13 (.ext 5 1),o1 14 (.ext 5 2),o1 2 (.alloc 29 [(.int .i64 0),.slnil]),o2 (.st 2 2 12),o1 3 (.mv 13),o1 4 (.mv 14)]) (.seq (.reg [o1 15 (.mv 0),o1 16 (.ld 2 true 2),o1 17 (.nilchk 15),o1 18 (.faddr 0 17),o1 19 (.faddr 15 18),o2 (.st 2 19 16)]) (.seq (.seq (.reg [o1 20 (.mv 4)]) (.cond 20 (.reg [o1 21 (.mv 0),o1 22 (.mv 0),o1 23 (.nilchk 22),o1 24 (.faddr 0 23),o1 25 (.ld 20 true 24),o1 26 (.mv 3),o1 27 (.call 41 [25,26]),o1 28 (.nilchk 21),o1 29 (.faddr 0 28),o2 (.st 20 29 27)]) .skip)) (.reg [o1 30 (.mv 0),o1 31 (.call 246 [30,(ci 9)])])))),[]⟩
theorem SL:xf D8 228=some BR:=by kernel_rfl
theorem PE:BR.code.lf=true:=rfl
def BS:AFn:=⟨29,(.seq (.regT [o1 5 (.mv 0),o1 6 (.nilchk 5),o1 7 (.faddr 0 6),o1 8 (.faddr 7 7),o1 9 (.ld 3 true 8),o1 10 (.mv 0),o1 11 (.call 250 [10]),o1 12 (.call 74 [9,11]),o1 4 (.mv 12),o1 13 (.ext 4 0),o1 14 (.ext 4 1),o1 2 (.mv 13),o1 3 (.mv 14)] [(1,6),(2,6),(3,6),(4,6)]) (.seq (.seq (.reg [o1 15 (.mv 2),o1 16 (.bin .eql 15 (ci 2)),o1 17 (.mv 16),o3 18 (.mv 0) 17,o3 19 (.call 234 [18]) 17,o3 20 (.nilchk 19) 17,o3 21 (.faddr 8 20) 17,o3 22 (.ld 1 false 21) 17,o3 23 (.not 22) 17,o1 24 (.pick 17 23 (.const (.bool false)))]) (.cond 24 (.seq (.reg [o1 25 (.mv 0),o1 26 (.call 246 [25,(ci 8)])]) .ret) .skip)) (.reg [o1 27 (.mv 0),o1 28 (.call 246 [27,(ci 2)])]))),[]⟩
theorem SM:xf D8 229=some BS:=by kernel_rfl
theorem PF:BS.code.lf=true:=rfl
def BT:AFn:=⟨48,(.seq (.reg [o1 5 (.mv 0),o1 6 (.call 246 [5,(ci 2)])]) (.seq (.seq (.reg [o1 7 (.mv 0),o1 8 (.call 234 [7]),o1 9 (.nilchk 8),o1 10 (.faddr 8 9),o1 11 (.ld 1 false 10)]) (.cond 11 .ret .skip)) (.seq (.regT [o1 13 (.mv 0),o1 14 (.nilchk 13),o1 15 (.faddr 0 14),o1 16 (.faddr 13 15),o1 17 (.ld 2 true 16),o1 18 (.mv 0),o1 19 (.call 234 [18]),o1 20 (.nilchk 19),o1 21 (.faddr 6 20),o1 22 (.ld 1 false 21),o1 23 (.mv 0),o1 24 (.nilchk 23),o1 25 (.faddr 20 24),o1 26 (.ld 1 false 25),o1 27 (.call 256 [17,22,26]),o1 12 (.mv 27),o1 28 (.ext 12 0),o1 29 (.ext 12 1),o1 30 (.ext 12 2),o1 2 (.alloc 29 [(.int .i64 0),.slnil]),o2 (.st 2 2 28),o1 3 (.mv 29),o1 4 (.mv 30)] [(1,6),(2,6),(3,6),(4,6),(1,7),(2,7),(3,7),(4,7),(1,8),(2,8),(3,8),(4,8),(1,9),(2,9),(3,9),(4,9),(1,11),(2,11),(3,11),(4,11),(6,11),(7,11),(8,11),(9,11),(1,12),(2,12),(3,12),(4,12),(6,12),(7,12),(8,12),(9,12),(1,13),(2,13),(3,13),(4,13),(6,13),(7,13),(8,13),(9,13),(1,19),(2,19),(3,19),(4,19),(6,19),(7,19),(8,19),(9,19),(11,19),(12,19),(13,19),(14,19)]) (.seq (.reg [o1 31 (.mv 0),o1 32 (.ld 2 true 2),o1 33 (.nilchk 31),o1 34 (.faddr 0 33),o1 35 (.faddr 13 34),o2 (.st 2 35 32)]) (.seq (.reg [o1 36 (.mv 3)]) (.cond 36 (.reg [o1 38 (.mv 0),o1 39 (.call 234 [38]),o1 40 (.mv 0),o1 41 (.call 234 [40]),o1 42 (.nilchk 41),o1 43 (.ld 11 true 42),o1 44 (.call 257 [43,(ci 2)]),o1 37 (.mv 44),o1 45 (.ext 37 0),o1 46 (.ext 37 1),o1 47 (.nilchk 39),o2 (.st 11 47 45)]) .skip)))))),[]⟩
theorem SN:xf D8 230=some BT:=by kernel_rfl
theorem PG:BT.code.lf=true:=rfl
def BU:AFn:=⟨30,(.seq (.regT [o1 3 (.mv 0),o1 4 (.mv 0),o1 5 (.nilchk 4),o1 6 (.faddr 0 5),o1 7 (.faddr 11 6),o1 8 (.ld 1 false 7),o1 9 (.mv 0),o1 10 (.nilchk 9),o1 11 (.faddr 20 10),o1 12 (.ld 1 false 11),o1 13 (.call 89 [8,12]),o1 2 (.mv 13),o1 14 (.ext 2 0),o1 15 (.ext 2 1),o1 16 (.nilchk 3),o1 17 (.faddr 0 16),o1 18 (.faddr 11 17),o2 (.st 1 18 14)] [(2,7),(3,7),(4,7),(5,7),(2,8),(3,8),(4,8),(5,8),(2,9),(3,9),(4,9),(5,9)]) (.reg [o1 20 (.mv 0),o1 21 (.call 234 [20]),o1 22 (.mv 0),o1 23 (.call 234 [22]),o1 24 (.nilchk 23),o1 25 (.ld 11 true 24),o1 26 (.call 243 [25]),o1 19 (.mv 26),o1 27 (.ext 19 0),o1 28 (.ext 19 1),o1 29 (.nilchk 21),o2 (.st 11 29 27)])),[]⟩
theorem SO:xf D8 231=some BU:=by kernel_rfl
theorem PH:BU.code.lf=true:=rfl
def BV:AFn:=⟨41,(.seq (.reg [o1 6 (.mv 0),o1 7 (.call 234 [6]),o1 8 (.nilchk 7),o1 9 (.faddr 5 8),o1 10 (.ld 1 false 9),o1 2 (.mv 10)]) (.seq (.reg [o1 11 (.mv 0),o1 12 (.nilchk 11),o1 13 (.faddr 0 12),o1 14 (.ld 20 true 13),o1 15 (.mv 2),o1 16 (.call 258 [14,15]),o1 3 (.mv 16)]) (.seq (.regT [o1 18 (.mv 0),o1 19 (.nilchk 18),o1 20 (.faddr 0 19),o1 21 (.faddr 7 20),o1 22 (.ld 3 true 21),o1 23 (.mv 0),o1 24 (.call 250 [23]),o1 25 (.mv 2),o1 26 (.call 259 [22,24,25]),o1 17 (.mv 26),o1 27 (.ext 17 0),o1 28 (.ext 17 1),o1 4 (.alloc 25 [(.int .i64 0),(.int .i64 0),(.int .i64 0)]),o2 (.st 3 4 27),o1 5 (.mv 28)] [(1,6),(2,6),(3,6),(4,6),(1,12),(2,12),(3,12),(4,12),(6,12),(8,12)]) (.seq (.reg [o1 29 (.mv 0),o1 30 (.ld 3 true 4),o1 31 (.nilchk 29),o1 32 (.faddr 0 31),o1 33 (.faddr 7 32),o2 (.st 3 33 30)]) (.seq (.seq (.reg [o1 34 (.mv 5),o1 35 (.not 34)]) (.cond 35 (.seq (.reg [o1 36 (.mv 0),o1 37 (.call 246 [36,(ci 2)])]) .ret) .skip)) (.reg [o1 38 (.mv 0),o1 39 (.mv 3),o1 40 (.call 253 [38,(ci 9),(ci 1),39,(ci 11)])])))))),[]⟩
theorem SP:xf D8 232=some BV:=by kernel_rfl
theorem PI:BV.code.lf=true:=rfl
def BW:AFn:=⟨27,(.seq (.seq (.regT [o1 5 (.mv 0),o1 6 (.nilchk 5),o1 7 (.faddr 0 6),o1 8 (.faddr 10 7),o1 9 (.ld 1 false 8),o1 10 (.mv 0),o1 11 (.call 234 [10]),o1 12 (.nilchk 11),o1 13 (.faddr 5 12),o1 14 (.ld 1 false 13),o1 15 (.call 260 [9,14]),o1 4 (.mv 15),o1 16 (.ext 4 0),o1 17 (.ext 4 1),o1 2 (.mv 16),o1 3 (.mv 17)] [(1,6),(2,6),(3,6),(4,6),(1,7),(2,7),(3,7),(4,7),(1,8),(2,8),(3,8),(4,8),(1,9),(2,9),(3,9),(4,9)]) (.seq (.reg [o1 18 (.mv 3),o1 19 (.bin .eql 18 (ci 0))]) (.cond 19 (.reg [o1 20 (.mv 0),o1 21 (.mv 2),o1 22 (.nilchk 20),o1 23 (.faddr 0 22),o1 24 (.faddr 10 23),o2 (.st 1 24 21)]) .skip))) (.reg [o1 25 (.mv 0),o1 26 (.call 246 [25,(ci 2)])])),[]⟩
theorem SQ:xf D8 233=some BW:=by kernel_rfl
theorem PJ:BW.code.lf=true:=rfl
def lL:AFn:=⟨33,(.seq (.reg [o1 2 (.box 33 0),o1 4 (.alloc 33 [(.int .i64 0),(.int .i64 0),(.int .i64 0),(.int .i64 0),(.int .i64 0),(.int .i64 0),(.bool false),(.int .i64 0),(.int .i64 0),(.int .i64 0),.slnil,.slnil,.slnil,(.int .i64 0),.slnil,(.int .i64 0),.slnil,(.int .i64 0),.slnil,.slnil])]) (.seq (.reg [o1 8 (.ld 20 true 2),o1 9 (.call 41 [8,(ci (-1))]),o1 5 (.alloc 33 [(.int .i64 0),(.int .i64 0),(.int .i64 0),(.int .i64 0),(.int .i64 0),(.int .i64 0),(.bool false),(.int .i64 0),(.int .i64 0),(.int .i64 0),.slnil,.slnil,.slnil,(.int .i64 0),.slnil,(.int .i64 0),.slnil,(.int .i64 0),.slnil,.slnil]),o2 (.st 20 5 9)]) (.seq (.seq (.reg [o1 10 (.ld 20 true 2),o1 11 (.mv 1),o1 12 (.call 221 [10,11]),o1 13 (.not 12)]) (.cond 13 (.seq (.reg [o1 14 (.ld 20 true 5),o2 (.st 20 4 14)]) .ret) .skip)) (.seq (.reg [o1 15 (.build [.fnnil,.fnnil,.fnnil,.fnnil,.fnnil,.fnnil,.fnnil,.fnnil,.fnnil,.fnnil,.fnnil,.fnnil] [(0,1,(.func 222)),(1,1,(.func 223)),(2,1,(.func 224)),(3,1,(.func 225)),(4,1,(.func 226)),(5,1,(.func 227)),(6,1,(.func 228)),(7,1,(.func 229)),(8,1,(.func 230)),(9,1,(.func 231)),(10,1,(.func 232)),(11,1,(.func 233))]),o1 6 (.alloc 219 [.fnnil,.fnnil,.fnnil,.fnnil,.fnnil,.fnnil,.fnnil,.fnnil,.fnnil,.fnnil,.fnnil,.fnnil]),o2 (.st 12 6 15)]) (.seq (.reg [o1 16 (.ld 20 true 5),o1 17 (.mv 1),o1 18 (.build [(.int .i64 0),(.int .i64 0),(.int .i64 0),(.int .i64 0),(.int .i64 0),(.int .i64 0),(.bool false),(.int .i64 0),(.int .i64 0),(.int .i64 0),.slnil,.slnil,.slnil,(.int .i64 0),.slnil,(.int .i64 0),.slnil,(.int .i64 0),.slnil,.slnil,(.int .i64 0)] [(0,20,16),(20,1,17)]),o1 19 (.box 221 18),o1 7 (.mv 19)]) (.seq (.reg [o1 20 (.mv 7),o1 21 (.call 234 [20]),o1 22 (.nilchk 21),o1 23 (.faddr 4 22),o1 24 (.ld 1 false 23),o1 25 (.aaddr 12 1 6 24),o1 26 (.ld 1 false 25),o1 27 (.mv 7),o1 28 (.callv 26 [27])]) (.seq (.reg [o1 29 (.mv 7),o1 30 (.nilchk 29),o1 31 (.faddr 0 30),o1 32 (.ld 20 true 31),o2 (.st 20 4 32)]) .ret))))))),[(4,some (20,true))]⟩
theorem xJ:xf D8 189=some lL:=by kernel_rfl
theorem rL {g r o:Nat} {k:IntKind} {i:Int} (h0:0≤i) (h1:i<12):nH 12 1 (.ptr g r o) (.int k i)=some (.ptr g r (o+i.toNat)):=by
  simp only [nH]
  rw [if_pos ⟨h0,by simpa using h1⟩,Nat.mul_one]
theorem gZ {s:State} {i k r g:Int}:(eO s i k r g).cfg=s.cfg:=by unfold eO; split <;> rfl
theorem fQ {s:State} {i k r g:Int}:(eO s i k r g).word=s.word:=by unfold eO; split <;> rfl
theorem eT {s:State} {i k r g:Int}:(eO s i k r g).slots=s.slots:=by unfold eO; split <;> rfl
theorem eS {s:State} {i k r g:Int}:(eO s i k r g).sends=s.sends:=by unfold eO; split <;> rfl
theorem eR {s:State} {i k r g:Int}:(eO s i k r g).recvs=s.recvs:=by unfold eO; split <;> rfl
theorem fP {s:State} {i k r g:Int}:(eO s i k r g).full=s.full:=by unfold eO; split <;> rfl
theorem eQ {s:State} {i k r g:Int}:(eO s i k r g).empty=s.empty:=by unfold eO; split <;> rfl
theorem hD {s:State} {i k r g:Int}:(eO s i k r g).now=s.now:=by unfold eO; split <;> rfl
theorem eU {s:State} {id:Int} (hc:bZ s=true) (h0:id≥0) (h1:id<s.threads.length):0≤(me s id).tries∧(me s id).tries≤1099511627776:=by
  have ha:s.threads.any (fun t=>!cZ t)=false:=by
    simp only [bZ,D9,Bool.not_eq_true'] at hc
    exact hc.2
  have hm:me s id∈s.threads:=iA (by omega)
  have ht:cZ (me s id)=true:=by
    have:=List.any_eq_false.1 ha _ hm
    simpa using this
  simp only [cZ,jN,cD,D9,decide_eq_true_eq] at ht
  omega
theorem cV {x:Int} (h:0≤x∧x≤1099511627776):(if 1099511627776<IntKind.wrap .i64 (x+1) then (1099511627776:Int) else IntKind.wrap .i64 (x+1))=min (x+1) 1099511627776:=by
  have:IntKind.wrap .i64 (x+1)=x+1:=by grind [bL]
  rw [this]; split <;> omega
theorem Ul {aW aV:Int} {aN aX:Int} {aG aO:Int} {aA:Bool} {bT bV bU:Int} {aB:List Slot} {aD aC:List Int} {aZ:Int} {aT:List Int} {bA:Int} {aU:List Int} {aL:Int} {aE:List Thread} {aK:List Entry} {id:Int} (h1:aB.length≤100000000) (h2:aD.length≤100000000) (h3:aC.length≤100000000) (h4:aT.length≤100000000) (h5:aU.length≤100000000) (h6:aE.length≤100000000) (h7:aK.length≤100000000) (hI:nP (State.mk (Config.mk aW aV aN aX aG aO aA) (Word.mk bT bV bU) aB aD aC (Event.mk aZ aT) (Event.mk bA aU) aL aE aK) id=true) (hpc:(aE.getD id.toNat default).pc=0):cX D8 189 [.agg [.int .i64 aW,.int .i64 aV,.int .i64 aN,.int .i64 aX,.int .i64 aG,.int .i64 aO,.bool aA,.int .i64 bT,.int .i64 bV,.int .i64 bU,.slv 2 (aB.map cU),.slv 1 (aD.map aS),.slv 1 (aC.map aS),.int .i64 aZ,.slv 1 (aT.map aS),.int .i64 bA,.slv 1 (aU.map aS),.int .i64 aL,.slv 11 (aE.map bH),.slv 5 (aK.map cO)],.int .i64 id] (.agg (bR (Ly (State.mk (Config.mk aW aV aN aX aG aO aA) (Word.mk bT bV bU) aB aD aC (Event.mk aZ aT) (Event.mk bA aU) aL aE aK) id)),[],[]):=by
  have hI':=hI
  simp only [nP,cN,D9,decide_eq_true_eq] at hI'
  obtain ⟨⟨⟨⟨hchk,hge⟩,hlt⟩,hruns⟩,hside⟩:=hI'
  have hid:id.toNat<aE.length:=by omega
  have hne:aE≠[]:=by intro h; subst h; simp at hlt; omega
  refine aI bP xJ (by simp [lL]) fun hw _=>?_
  clear hw
  repeat' with_reducible first|refine aQ (fun h=>?_) (fun h=>?_)|refine bB (fun h=>?_) (fun h=>?_)|refine aF (fun h=>?_) (fun h=>?_)|refine aH (fun h=>?_) (fun h=>?_)|refine FN ?_ ?_ ?_ ?_ rfl ?_|refine aR ?_ ?_|refine bC ?_ ?_|refine bM ?_ ?_|refine I2 bP SF OY ?_ ?_ ?_ ?_ ?_|refine I2 bP yU rX ?_ ?_ ?_ ?_ ?_|refine IA ?_ ?_ ?_|refine L1 ?_ ?_|refine L2 ?_ ?_|refine L3 ?_ ?_ ?_ ?_|refine L4 ?_ ?_|refine L5 ?_ ?_ ?_ ?_ ?_|refine L6 ?_ ?_ ?_ ?_ ?_|refine N1 (gF ?_ ?_ ?_ ?_ ?_ ?_ ?_ hne) ?_ ?_|refine P0 (lX ?_ ?_ ?_ ?_ ?_ ?_ ?_) ?_ ?_ ?_|refine I3 bP yR rU ?_ ?_ ?_ ?_ ?_|refine I3 bP yV rY ?_ ?_ ?_ ?_ ?_|refine dE ?_ ?_ ?_ ?_|refine P0 (qF ?_) ?_ ?_ ?_|refine ACV.of (qF ?_) ?_ ?_ ?_|refine ACK.of (qF ?_) ?_ ?_|simp -implicitDefEqProofs only [lL,qA,bN,bD,bO,aJ,aP,qU,List.reduceReplicate,Nat.reduceAdd,Nat.reduceSub,Nat.reduceLeDiff,Nat.reduceEqDiff,Nat.reduceMul,reduceIte,reduceCtorEq,qI,Nat.reduceLT,Nat.reduceBEq,BL,uP,cL,Int.toNat_natCast,bH,dM,dO,hX,hpc,hI,Int.reduceToNat,Nat.mul_one,cE,cG,rL,Int.reduceLE,Int.reduceLT,Int.toNat_zero,Int.toNat_one,Int.le_refl,set_set,bG,uM,uQ, *]
  all_goals first
    | omega
    | (constructor <;> omega)
    | exact Wk.refl _
    | skip

set_option maxHeartbeats 8000000
theorem zY {w:Word} {room:Int} (h:cT w room=true):cT (jQ w room).1 room=true:=by
  unfold jQ
  split
  · exact h
  · split
    · exact h
    · split
      · exact h
      · rename_i h1 h2 h3
        simp only [oP,decide_eq_true_eq,not_or] at h3
        obtain ⟨h3,h4⟩:=h3
        simp only [cT,cD,D9,decide_eq_true_eq] at h ⊢
        have hl:iN ⟨w.h,w.t+1,w.m⟩≤room:=by
          simp only [iN] at h3 h ⊢
          split at h3 <;> split <;> (try split at h3) <;> (try split) <;> omega
        omega
theorem Cm {w:Word} {room head:Int} (h:cT w room=true):cT (rJ w room head).1 room=true:=by
  unfold rJ
  split
  · exact h
  · rename_i h1
    simp only [not_or,oP,decide_eq_true_eq,Classical.not_not] at h1
    obtain ⟨h0,h1,h2,h3⟩:=h1
    simp only [cT,cD,D9,decide_eq_true_eq] at h ⊢
    have hl:iN ⟨w.h+1,w.t,w.m⟩≤room∧w.h+1≤w.t:=by
      simp only [iN] at h2 h3 h ⊢
      split at h3 <;> split <;> (try split at h3) <;> (try split) <;> omega
    omega
theorem uW {s:State} {id:Int} {w:Word} (h:cN s id=true) (hw:cT s.word s.slots.length=true→cT w s.slots.length=true):cN (cK s w) id=true:=by
  have h':=h
  simp only [cN,bZ,D9] at h'
  have hp:cT s.word (fL s.cfg)=true:=h'.1.1.1.1.1.1.1.1.1.1.1.1.1.1.2
  have hlen:(s.slots.length:Int)=fL s.cfg:=by simpa using h'.1.1.1.1.1.1.1.1.1.1.1.1.1.2
  have e:bZ (cK s w)=bZ s:=by
    simp only [bZ,cK]
    rw [show cT w (fL s.cfg)=cT s.word (fL s.cfg) from by rw [hp,← hlen]; exact hw (by rw [hlen]; exact hp)]
    try rfl
  simp only [cN,e] at h ⊢
  exact h
theorem AC.via {P:Program} {κ:Ef→Prop} {m:AM} {b:Nat} (f:FuncId) {args:List AV} {Z:List Nat} (hZ:fA 1 (jL args) []=Z) (hb:1≤b) (hz:fS m Z=true) (h:ACV P f (trs (rI m.get [] 1 Z) args) Z κ):AC P f args m b κ:=AC.view Z hb hz h
theorem oS {e:Event}:(fI e).1.ln.length≤e.ln.length:=by
  unfold fI; split
  · exact Nat.le_refl _
  · split <;> simp_all
theorem gQ {s:State} {i:Int}:(cM s i).cfg=s.cfg:=by unfold cM; split <;> rfl
theorem fH {s:State} {i:Int}:(cM s i).word=s.word:=by unfold cM; split <;> rfl
theorem eF {s:State} {i:Int}:(cM s i).slots=s.slots:=by unfold cM; split <;> rfl
theorem eE {s:State} {i:Int}:(cM s i).sends=s.sends:=by unfold cM; split <;> rfl
theorem eD {s:State} {i:Int}:(cM s i).recvs=s.recvs:=by unfold cM; split <;> rfl
theorem fG {s:State} {i:Int}:(cM s i).full=s.full:=by unfold cM; split <;> rfl
theorem eC {s:State} {i:Int}:(cM s i).empty=s.empty:=by unfold cM; split <;> rfl
theorem gS {s:State} {i:Int}:(cM s i).now=s.now:=by unfold cM; split <;> rfl
theorem gR {s:State} {i:Int}:(cM s i).log=s.log:=by unfold cM; split <;> rfl
theorem hG {t:Thread} {k:Int} (h:t.pc=k):(⟨t.st,t.kind,t.val,t.untl,k,t.reg,t.seen,t.tries,t.late,t.res,t.got⟩:Thread)=t:=by subst h; rfl
theorem Oo {s:State} {id:Int} (h:nP s id=true):cN s id=true:=by
  simp only [nP,D9] at h
  exact h.1.1
end Go.Sak
