/- Part T51 of the proofs about the program: K50. Conditions: none. -/
import Derived.Test.YtahdilehajdhgaaGreatT22
import Derived.Test.YtahdilehajdhgaaGreatT41
open Nat renaming reduceAdd→D4,reduceBEq→E1,reduceEqDiff→D0,reduceLT→E2,reduceLeDiff→D3,reduceMul→D6,reduceSub→D5
open Go.Proofs.Tryz renaming prog→D8
namespace Go.Sak
open Go Go.RowKit Go.Proofs
set_option linter.unusedVariables false
set_option linter.unusedSimpArgs false
set_option maxRecDepth 10000
set_option maxHeartbeats 8000000
def BX:AFn:=⟨37,(.seq (.reg [o1 2 (.box 33 0),o1 4 (.mv (.const (.bool false)))]) (.seq (.reg [o1 5 (.ld 20 true 2),o1 6 (.call 18 [5]),o1 7 (.mv 6),o3 8 (.mv 1) 7,o3 9 (.bin .geq 8 (ci 0)) 7,o1 10 (.pick 7 9 (.const (.bool false))),o1 11 (.mv 10),o3 12 (.mv 1) 11,o3 13 (.faddr 18 2) 11,o3 14 (.ld 1 false 13) 11,o3 15 (.len 14) 11,o3 16 (.bin .lss 12 15) 11,o1 17 (.pick 11 16 (.const (.bool false))),o1 18 (.mv 17),o3 19 (.faddr 18 2) 18,o3 20 (.ld 1 false 19) 18,o3 21 (.mv 1) 18,o3 22 (.iaddr 11 20 21) 18,o3 23 (.ld 11 true 22) 18,o3 24 (.call 124 [23]) 18,o3 25 (.bin .eql 24 (ci 0)) 18,o1 26 (.pick 18 25 (.const (.bool false))),o1 27 (.mv 26),o3 28 (.faddr 18 2) 27,o3 29 (.ld 1 false 28) 27,o3 30 (.mv 1) 27,o3 31 (.iaddr 11 29 30) 27,o3 32 (.faddr 1 31) 27,o3 33 (.ld 1 false 32) 27,o3 34 (.call 75 [33]) 27,o3 35 (.bin .eql 34 (ci 2)) 27,o1 36 (.pick 27 35 (.const (.bool false))),o1 4 (.mv 36)]) .ret)),[(4,none)]⟩
theorem SR:xf D8 235=some BX:=by kernel_rfl
theorem lY {aW aV:Int} {aN aX:Int} {aG aO:Int} {aA:Bool} {bT bV bU:Int} {aB:List Slot} {aD aC:List Int} {aZ:Int} {aT:List Int} {bA:Int} {aU:List Int} {aL:Int} {aE:List Thread} {aK:List Entry} {id:Int} (h1:aB.length≤100000000) (h2:aD.length≤100000000) (h3:aC.length≤100000000) (h4:aT.length≤100000000) (h5:aU.length≤100000000) (h6:aE.length≤100000000) (h7:aK.length≤100000000):cX D8 235 [.agg [.int .i64 aW,.int .i64 aV,.int .i64 aN,.int .i64 aX,.int .i64 aG,.int .i64 aO,.bool aA,.int .i64 bT,.int .i64 bV,.int .i64 bU,.slv 2 (aB.map cU),.slv 1 (aD.map aS),.slv 1 (aC.map aS),.int .i64 aZ,.slv 1 (aT.map aS),.int .i64 bA,.slv 1 (aU.map aS),.int .i64 aL,.slv 11 (aE.map bH),.slv 5 (aK.map cO)],.int .i64 id] (.bool (nI (State.mk (Config.mk aW aV aN aX aG aO aA) (Word.mk bT bV bU) aB aD aC (Event.mk aZ aT) (Event.mk bA aU) aL aE aK) id),[],[]):=by
  refine aI bP SR (by simp [BX]) fun hw _=>?_
  clear hw
  repeat' with_reducible first|refine aQ (fun h=>?_) (fun h=>?_)|refine bB (fun h=>?_) (fun h=>?_)|refine aF (fun h=>?_) (fun h=>?_)|refine aH (fun h=>?_) (fun h=>?_)|refine bJ ?_ ?_ ?_ ?_|refine aR ?_ ?_|refine bC ?_ ?_|refine bM ?_ ?_|refine P0 (iS ?_ ?_ ?_ ?_ ?_ ?_ ?_) ?_ ?_ ?_|refine eK (d:=default) ?_ ?_|refine L1 ?_ ?_|refine L2 ?_ ?_|refine L3 ?_ ?_ ?_ ?_|refine L4 ?_ ?_|refine L5 ?_ ?_ ?_ ?_ ?_|refine L6 ?_ ?_ ?_ ?_ ?_|refine P0 (kH) ?_ ?_ ?_|refine ACV.of (kH) ?_ ?_ ?_|refine ACK.of (kH) ?_ ?_|refine P0 (gI) ?_ ?_ ?_|refine ACV.of (gI) ?_ ?_ ?_|refine ACK.of (gI) ?_ ?_|simp -implicitDefEqProofs only [BX,qA,bN,bD,bO,aJ,aP,qU,List.reduceReplicate,D4,D5,D3,D0,D6,reduceIte,reduceCtorEq,qI,E2,E1,bH,Int.toNat_natCast, *]
  all_goals first
    | omega
    | (simp at *; omega)
    | grind [nI,cN,me]
    | (simp only [nI,cN,me]; simp_all; done)
    | (simp only [nI,cN,me]; simp_all; omega)
    | skip

theorem FB {s:State} {id:Int} (h:nI s id=true):cN s id=true:=by
  simp only [nI,Bool.and_eq_true] at h; exact h.1.1
section
variable {κ:Ef→Prop} {m:AM} {b:Nat}
theorem Hf {m':AM} {b' g:Nat} (ren:List (Nat×Nat)) (h1:stOk b (b+15) [] ren m'=true)
    (h3:inlOk b m [] ren ((AV.mapm g).tr (stT b (b+15) [] ren m')) (stM b (b+15) [] ren (stT b (b+15) [] ren m') m')=true)
    (h4:κ ((AV.mapm g).tr (stT b (b+15) [] ren m'),inlU m (stM b (b+15) [] ren (stT b (b+15) [] ren m') m'),m.map (·.1))):Dk b m κ (.mapm g) m' b':=⟨[],ren,h1,rfl,h3,h4⟩
end
def uO:AFn:=⟨13,(.seq (.reg [o1 2 (.mv (.const .nilp))]) (.seq (.regT [o1 3 (.mv 0),o1 4 (.nilchk 3),o1 5 (.faddr 0 4),o1 6 (.faddr 18 5),o1 7 (.ld 1 false 6),o1 8 (.mv 0),o1 9 (.nilchk 8),o1 10 (.faddr 20 9),o1 11 (.ld 1 false 10),o1 12 (.iaddr 11 7 11),o1 2 (.mv 12)] [(1,6),(2,6),(3,6),(4,6),(1,7),(2,7),(3,7),(4,7),(1,8),(2,8),(3,8),(4,8)]) .ret)),[(2,none)]⟩
theorem yT:xf D8 237=some uO:=by kernel_rfl
theorem rW:uO.code.lf=true:=rfl
def uS:AFn:=⟨21,(.seq (.reg [o1 2 (.mv (ci 0))]) (.seq (.regT [o1 6 (.mv 0),o1 7 (.nilchk 6),o1 8 (.faddr 0 7),o1 9 (.faddr 7 8),o1 10 (.ld 3 true 9),o1 11 (.mv 0),o1 12 (.nilchk 11),o1 13 (.faddr 0 12),o1 14 (.faddr 10 13),o1 15 (.ld 1 false 14),o1 16 (.len 15),o1 17 (.call 74 [10,16]),o1 5 (.mv 17),o1 18 (.ext 5 0),o1 19 (.ext 5 1),o1 3 (.mv 18),o1 4 (.mv 19)] [(1,6),(2,6),(3,6),(4,6),(1,7),(2,7),(3,7),(4,7),(1,8),(2,8),(3,8),(4,8),(1,9),(2,9),(3,9),(4,9),(1,10),(2,10),(3,10),(4,10)]) (.seq (.reg [o1 20 (.mv 4),o1 2 (.mv 20)]) .ret))),[(2,none)]⟩
theorem yX:xf D8 267=some uS:=by kernel_rfl
theorem sA:uS.code.lf=true:=rfl
def uR:AFn:=⟨9,(.reg [o1 4 (.mv 0),o1 5 (.call 237 [4]),o1 6 (.mv 1),o1 7 (.nilchk 5),o1 8 (.faddr 4 7),o2 (.st 1 8 6)]),[]⟩
theorem yW:xf D8 262=some uR:=by kernel_rfl
theorem rZ:uR.code.lf=true:=rfl
def Ql:AFn:=⟨30,(.seq (.regT [o1 8 (.mv 0),o1 9 (.mv 0),o1 10 (.nilchk 9),o1 11 (.faddr 0 10),o1 12 (.ld 20 true 11),o1 13 (.mv 0),o1 14 (.nilchk 13),o1 15 (.faddr 20 14),o1 16 (.ld 1 false 15),o1 17 (.mv 0),o1 18 (.call 237 [17]),o1 19 (.nilchk 18),o1 20 (.faddr 1 19),o1 21 (.ld 1 false 20),o1 22 (.mv 1),o1 23 (.mv 2),o1 24 (.call 279 [12,16,21,22,23]),o1 25 (.nilchk 8),o1 26 (.faddr 0 25),o2 (.st 20 26 24)] [(2,6),(3,6),(4,6),(2,7),(3,7),(4,7),(2,8),(3,8),(4,8),(2,10),(3,10),(4,10),(6,10),(7,10),(8,10),(2,11),(3,11),(4,11),(6,11),(7,11),(8,11),(2,12),(3,12),(4,12),(6,12),(7,12),(8,12),(2,13),(3,13),(4,13),(6,13),(7,13),(8,13)]) (.reg [o1 27 (.mv 0),o1 28 (.mv 3),o1 29 (.call 262 [27,28])])),[]⟩
theorem HN:xf D8 287=some Ql:=by kernel_rfl
theorem Yg:Ql.code.lf=true:=rfl
def Qg:AFn:=⟨7,(.reg [o1 4 (.mv 0),o1 5 (.mv 1),o1 6 (.call 287 [4,5,(ci 0),(ci 9)])]),[]⟩
theorem HK:xf D8 264=some Qg:=by kernel_rfl
theorem Yd:Qg.code.lf=true:=rfl
def Tt:AFn:=⟨13,(.reg [o1 2 (.mv 0),o1 3 (.call 237 [2]),o1 4 (.mv 0),o1 5 (.call 237 [4]),o1 6 (.nilchk 5),o1 7 (.faddr 7 6),o1 8 (.ld 1 false 7),o1 9 (.bin .add 8 (ci 1)),o1 10 (.mn 9 (ci 1099511627776)),o1 11 (.nilchk 3),o1 12 (.faddr 7 11),o2 (.st 1 12 10)]),[]⟩
theorem MP:xf D8 265=some Tt:=by kernel_rfl
theorem ID:Tt.code.lf=true:=rfl
def CQ:AFn:=⟨36,(.seq (.reg [o1 3 (.mv 0),o1 4 (.call 237 [3]),o1 2 (.mv 4)]) (.block 0 (.seq (.reg [o1 8 (.mv 2),o1 9 (.nilchk 8),o1 10 (.faddr 1 9),o1 11 (.ld 1 false 10),o1 12 (.bin .eql 11 (ci 5)),o1 7 (.mv 12)]) (.cond 7 (.reg [o1 13 (.mv 0),o1 14 (.call 264 [13,(ci 4)])]) (.seq (.reg [o1 16 (.mv 2),o1 17 (.nilchk 16),o1 18 (.faddr 8 17),o1 19 (.ld 1 false 18),o1 15 (.mv 19)]) (.cond 15 (.reg [o1 20 (.mv 0),o1 21 (.call 264 [20,(ci 5)])]) (.seq (.regT [o1 23 (.mv 0),o1 24 (.nilchk 23),o1 25 (.faddr 0 24),o1 26 (.faddr 0 25),o1 27 (.ld 7 true 26),o1 28 (.mv 2),o1 29 (.nilchk 28),o1 30 (.faddr 7 29),o1 31 (.ld 1 false 30),o1 32 (.call 281 [27,31]),o1 33 (.bin .eql 32 (ci 2)),o1 22 (.mv 33)] [(1,6),(2,6),(3,6),(4,6),(1,7),(2,7),(3,7),(4,7),(1,8),(2,8),(3,8),(4,8)]) (.cond 22 (.reg [o1 34 (.mv 0),o1 35 (.call 262 [34,(ci 5)])]) (.reg [o1 5 (.mv 0),o1 6 (.call 265 [5])]))))))))),[]⟩
theorem TJ:xf D8 268=some CQ:=by kernel_rfl
theorem PP:CQ.code.lf=true:=rfl
def CS:AFn:=⟨52,(.seq (.regT [o1 7 (.mv 0),o1 8 (.nilchk 7),o1 9 (.faddr 0 8),o1 10 (.faddr 7 9),o1 11 (.ld 3 true 10),o1 12 (.mv 0),o1 13 (.nilchk 12),o1 14 (.faddr 0 13),o1 15 (.faddr 10 14),o1 16 (.ld 1 false 15),o1 17 (.len 16),o1 18 (.call 126 [11,17]),o1 6 (.mv 18),o1 19 (.ext 6 0),o1 20 (.ext 6 1),o1 21 (.ext 6 2),o1 2 (.alloc 25 [(.int .i64 0),(.int .i64 0),(.int .i64 0)]),o2 (.st 3 2 19),o1 3 (.mv 20),o1 4 (.mv 21)] [(1,6),(2,6),(3,6),(4,6),(1,7),(2,7),(3,7),(4,7),(1,8),(2,8),(3,8),(4,8),(1,9),(2,9),(3,9),(4,9),(1,10),(2,10),(3,10),(4,10),(1,16),(2,16),(3,16),(4,16),(6,16),(7,16),(8,16),(9,16),(10,16),(11,16)]) (.seq (.reg [o1 22 (.mv 4)]) (.block 0 (.seq (.reg [o1 27 (.bin .eql 22 (ci 1)),o1 26 (.mv 27)]) (.cond 26 (.seq (.reg [o1 28 (.mv 0),o1 29 (.nilchk 28),o1 30 (.faddr 0 29),o1 31 (.ld 20 true 30),o1 32 (.mv 3),o1 33 (.call 258 [31,32]),o1 5 (.mv 33)]) (.seq (.reg [o1 34 (.mv 0),o1 35 (.ld 3 true 2),o1 36 (.nilchk 34),o1 37 (.faddr 0 36),o1 38 (.faddr 7 37),o2 (.st 3 38 35)]) (.seq (.reg [o1 39 (.mv 0),o1 40 (.call 237 [39]),o1 41 (.mv 3),o1 42 (.nilchk 40),o1 43 (.faddr 5 42),o2 (.st 1 43 41)]) (.reg [o1 44 (.mv 0),o1 45 (.mv 4),o1 46 (.mv 5),o1 47 (.call 287 [44,45,46,(ci 4)])])))) (.seq (.reg [o1 49 (.bin .eql 22 (ci 4)),o1 48 (.mv 49)]) (.cond 48 (.reg [o1 50 (.mv 0),o1 51 (.call 262 [50,(ci 2)])]) (.reg [o1 23 (.mv 0),o1 24 (.mv 4),o1 25 (.call 264 [23,24])])))))))),[]⟩
theorem TK:xf D8 269=some CS:=by kernel_rfl
theorem PQ:CS.code.lf=true:=rfl
def uN:AFn:=⟨15,(.seq (.reg [o1 1 (.box 223 0),o1 2 (.mv (.const .mapnil))]) (.seq (.reg [o1 3 (.mkmap),o1 4 (.mkfn (.func 261) [] [1]),o2 (.mupd 3 (ci 0) 4),o1 5 (.mkfn (.func 263) [] [1]),o2 (.mupd 3 (ci 1) 5),o1 6 (.mkfn (.func 266) [] [1]),o2 (.mupd 3 (ci 2) 6),o1 7 (.ld 1 false 1),o1 8 (.mkfn (.func 269) [7] []),o2 (.mupd 3 (ci 3) 8),o1 9 (.mkfn (.func 270) [] [1]),o2 (.mupd 3 (ci 4) 9),o1 10 (.mkfn (.func 272) [] [1]),o2 (.mupd 3 (ci 5) 10),o1 11 (.mkfn (.func 273) [] [1]),o2 (.mupd 3 (ci 6) 11),o1 12 (.mkfn (.func 274) [] [1]),o2 (.mupd 3 (ci 7) 12),o1 13 (.mkfn (.func 275) [] [1]),o2 (.mupd 3 (ci 8) 13),o1 14 (.mv 3),o1 2 (.mv 14)]) .ret)),[(2,none)]⟩
theorem yS:xf D8 236=some uN:=by kernel_rfl
theorem rV:uN.code.lf=true:=rfl
def CN:AFn:=⟨20,(.seq (.regT [o1 2 (.ld 1 false 0),o1 3 (.ld 1 false 0),o1 4 (.nilchk 3),o1 5 (.faddr 0 4),o1 6 (.faddr 12 5),o1 7 (.ld 1 false 6),o1 8 (.ld 1 false 0),o1 9 (.nilchk 8),o1 10 (.faddr 20 9),o1 11 (.ld 1 false 10),o1 12 (.call 245 [7,11]),o1 1 (.mv 12),o1 13 (.ext 1 0),o1 14 (.ext 1 1),o1 15 (.nilchk 2),o1 16 (.faddr 0 15),o1 17 (.faddr 12 16),o2 (.st 1 17 13)] [(0,1),(0,2),(0,3),(0,4),(0,5),(0,6),(1,6),(2,6),(3,6),(4,6),(5,6),(0,7),(1,7),(2,7),(3,7),(4,7),(5,7),(0,8),(1,8),(2,8),(3,8),(4,8),(5,8),(0,9),(1,9),(2,9),(3,9),(4,9),(5,9),(0,10)]) (.reg [o1 18 (.ld 1 false 0),o1 19 (.call 262 [18,(ci 1)])])),[]⟩
theorem TG:xf D8 261=some CN:=by kernel_rfl
theorem PM:CN.code.lf=true:=rfl
def CO:AFn:=⟨24,(.block 0 (.seq (.regT [o1 4 (.ld 1 false 0),o1 5 (.nilchk 4),o1 6 (.faddr 0 5),o1 7 (.faddr 12 6),o1 8 (.ld 1 false 7),o1 9 (.ld 1 false 0),o1 10 (.nilchk 9),o1 11 (.faddr 20 10),o1 12 (.ld 1 false 11),o1 13 (.call 247 [8,12]),o1 3 (.mv 13)] [(0,5),(1,5),(2,5),(3,5),(4,5),(0,6),(1,6),(2,6),(3,6),(4,6),(0,7),(1,7),(2,7),(3,7),(4,7),(0,8),(1,8),(2,8),(3,8),(4,8)]) (.cond 3 (.reg [o1 14 (.ld 1 false 0),o1 15 (.call 262 [14,(ci 2)])]) (.seq (.reg [o1 17 (.ld 1 false 0),o1 18 (.call 237 [17]),o1 19 (.nilchk 18),o1 20 (.faddr 8 19),o1 21 (.ld 1 false 20),o1 16 (.mv 21)]) (.cond 16 (.reg [o1 22 (.ld 1 false 0),o1 23 (.call 264 [22,(ci 5)])]) (.reg [o1 1 (.ld 1 false 0),o1 2 (.call 265 [1])])))))),[]⟩
theorem TH:xf D8 263=some CO:=by kernel_rfl
theorem PN:CO.code.lf=true:=rfl
def CP:AFn:=⟨16,(.seq (.reg [o1 2 (.ld 1 false 0),o1 3 (.call 267 [2]),o1 1 (.mv 3)]) (.seq (.reg [o1 4 (.mv 1)]) (.block 0 (.seq (.reg [o1 9 (.bin .eql 4 (ci 1)),o1 8 (.mv 9)]) (.cond 8 (.reg [o1 10 (.ld 1 false 0),o1 11 (.call 262 [10,(ci 3)])]) (.seq (.reg [o1 13 (.bin .eql 4 (ci 4)),o1 12 (.mv 13)]) (.cond 12 (.reg [o1 14 (.ld 1 false 0),o1 15 (.call 268 [14])]) (.reg [o1 5 (.ld 1 false 0),o1 6 (.mv 1),o1 7 (.call 264 [5,6])])))))))),[]⟩
theorem TI:xf D8 266=some CP:=by kernel_rfl
theorem PO:CP.code.lf=true:=rfl
def CT:AFn:=⟨39,(.seq (.reg [o1 2 (.ld 1 false 0),o1 3 (.call 237 [2]),o1 1 (.mv 3)]) (.seq (.regT [o1 5 (.mv 1),o1 6 (.ld 1 false 0),o1 7 (.nilchk 6),o1 8 (.faddr 0 7),o1 9 (.faddr 10 8),o1 10 (.ld 1 false 9),o1 11 (.mv 1),o1 12 (.nilchk 11),o1 13 (.faddr 5 12),o1 14 (.ld 1 false 13),o1 15 (.call 271 [10,14]),o1 4 (.mv 15),o1 16 (.ext 4 0),o1 17 (.ext 4 1),o1 18 (.nilchk 5),o1 19 (.faddr 10 18),o2 (.st 1 19 16)] [(1,7),(2,7),(3,7),(4,7),(5,7),(1,8),(2,8),(3,8),(4,8),(5,8),(1,9),(2,9),(3,9),(4,9),(5,9)]) (.seq (.regT [o1 21 (.ld 1 false 0),o1 22 (.ld 1 false 0),o1 23 (.nilchk 22),o1 24 (.faddr 0 23),o1 25 (.faddr 10 24),o1 26 (.ld 1 false 25),o1 27 (.mv 1),o1 28 (.nilchk 27),o1 29 (.faddr 5 28),o1 30 (.ld 1 false 29),o1 31 (.call 260 [26,30]),o1 20 (.mv 31),o1 32 (.ext 20 0),o1 33 (.ext 20 1),o1 34 (.nilchk 21),o1 35 (.faddr 0 34),o1 36 (.faddr 10 35),o2 (.st 1 36 32)] [(0,1),(0,2),(0,3),(0,4),(0,5),(0,7),(1,7),(2,7),(3,7),(4,7),(5,7),(0,8),(1,8),(2,8),(3,8),(4,8),(5,8),(0,9),(1,9),(2,9),(3,9),(4,9),(5,9),(0,10)]) (.reg [o1 37 (.ld 1 false 0),o1 38 (.call 262 [37,(ci 6)])])))),[]⟩
theorem TL:xf D8 270=some CT:=by kernel_rfl
theorem PS:CT.code.lf=true:=rfl
def CV:AFn:=⟨13,(.seq (.regT [o1 1 (.ld 1 false 0),o1 2 (.call 237 [1]),o1 3 (.ld 1 false 0),o1 4 (.nilchk 3),o1 5 (.faddr 0 4),o1 6 (.faddr 15 5),o1 7 (.ld 2 true 6),o1 8 (.call 254 [7]),o1 9 (.nilchk 2),o1 10 (.faddr 6 9),o2 (.st 1 10 8)] [(0,2),(1,2),(0,3),(1,3),(0,4),(1,4),(0,5),(1,5),(0,6),(1,6)]) (.reg [o1 11 (.ld 1 false 0),o1 12 (.call 262 [11,(ci 7)])])),[]⟩
theorem TN:xf D8 272=some CV:=by kernel_rfl
theorem PT:CV.code.lf=true:=rfl
def CW:AFn:=⟨31,(.seq (.reg [o1 5 (.ld 1 false 0),o1 6 (.nilchk 5),o1 7 (.faddr 0 6),o1 8 (.faddr 13 7),o1 9 (.ld 2 true 8),o1 10 (.call 255 [9]),o1 4 (.mv 10),o1 11 (.ext 4 0),o1 12 (.ext 4 1),o1 13 (.ext 4 2),o1 1 (.alloc 29 [(.int .i64 0),.slnil]),o2 (.st 2 1 11),o1 2 (.mv 12),o1 3 (.mv 13)]) (.seq (.seq (.reg [o1 14 (.ld 1 false 0),o1 15 (.ld 2 true 1),o1 16 (.nilchk 14),o1 17 (.faddr 0 16),o1 18 (.faddr 13 17),o2 (.st 2 18 15)]) (.seq (.reg [o1 19 (.mv 3)]) (.cond 19 (.regT [o1 20 (.ld 1 false 0),o1 21 (.ld 1 false 0),o1 22 (.nilchk 21),o1 23 (.faddr 0 22),o1 24 (.ld 20 true 23),o1 25 (.mv 2),o1 26 (.call 41 [24,25]),o1 27 (.nilchk 20),o1 28 (.faddr 0 27),o2 (.st 20 28 26)] [(0,1),(0,2),(0,3),(0,4),(0,6)]) .skip))) (.reg [o1 29 (.ld 1 false 0),o1 30 (.call 262 [29,(ci 9)])]))),[]⟩
theorem TO:xf D8 273=some CW:=by kernel_rfl
theorem PU:CW.code.lf=true:=rfl
def CX:AFn:=⟨16,(.seq (.reg [o1 1 (.ld 1 false 0),o1 2 (.call 262 [1,(ci 2)])]) (.seq (.reg [o1 3 (.ld 1 false 0),o1 4 (.call 267 [3]),o1 5 (.bin .eql 4 (ci 4)),o1 6 (.mv 5),o3 7 (.ld 1 false 0) 6,o3 8 (.call 237 [7]) 6,o3 9 (.nilchk 8) 6,o3 10 (.faddr 8 9) 6,o3 11 (.ld 1 false 10) 6,o3 12 (.not 11) 6,o1 13 (.pick 6 12 (.const (.bool false)))]) (.cond 13 (.reg [o1 14 (.ld 1 false 0),o1 15 (.call 262 [14,(ci 8)])]) .skip))),[]⟩
theorem TP:xf D8 274=some CX:=by kernel_rfl
theorem PV:CX.code.lf=true:=rfl
def CY:AFn:=⟨47,(.seq (.seq (.reg [o1 4 (.ld 1 false 0),o1 5 (.call 262 [4,(ci 2)])]) (.seq (.reg [o1 6 (.ld 1 false 0),o1 7 (.call 237 [6]),o1 8 (.nilchk 7),o1 9 (.faddr 8 8),o1 10 (.ld 1 false 9)]) (.cond 10 .ret .skip))) (.seq (.regT [o1 12 (.ld 1 false 0),o1 13 (.nilchk 12),o1 14 (.faddr 0 13),o1 15 (.faddr 15 14),o1 16 (.ld 2 true 15),o1 17 (.ld 1 false 0),o1 18 (.call 237 [17]),o1 19 (.nilchk 18),o1 20 (.faddr 6 19),o1 21 (.ld 1 false 20),o1 22 (.ld 1 false 0),o1 23 (.nilchk 22),o1 24 (.faddr 20 23),o1 25 (.ld 1 false 24),o1 26 (.call 256 [16,21,25]),o1 11 (.mv 26),o1 27 (.ext 11 0),o1 28 (.ext 11 1),o1 29 (.ext 11 2),o1 1 (.alloc 29 [(.int .i64 0),.slnil]),o2 (.st 2 1 27),o1 2 (.mv 28),o1 3 (.mv 29)] [(0,5),(1,5),(2,5),(3,5),(4,5),(0,6),(1,6),(2,6),(3,6),(4,6),(0,7),(1,7),(2,7),(3,7),(4,7),(0,8),(1,8),(2,8),(3,8),(4,8),(0,9),(1,9),(2,9),(3,9),(4,9),(0,10),(1,10),(2,10),(3,10),(4,10),(5,10),(6,10),(7,10),(8,10),(9,10),(0,11),(1,11),(2,11),(3,11),(4,11),(5,11),(6,11),(7,11),(8,11),(9,11),(0,12),(1,12),(2,12),(3,12),(4,12),(5,12),(6,12),(7,12),(8,12),(9,12),(0,13),(1,13),(2,13),(3,13),(4,13),(5,13),(6,13),(7,13),(8,13),(9,13),(0,19),(1,19),(2,19),(3,19),(4,19),(5,19),(6,19),(7,19),(8,19),(9,19),(10,19),(11,19),(12,19),(13,19),(14,19)]) (.seq (.reg [o1 30 (.ld 1 false 0),o1 31 (.ld 2 true 1),o1 32 (.nilchk 30),o1 33 (.faddr 0 32),o1 34 (.faddr 15 33),o2 (.st 2 34 31)]) (.seq (.reg [o1 35 (.mv 2)]) (.cond 35 (.regT [o1 37 (.ld 1 false 0),o1 38 (.call 237 [37]),o1 39 (.ld 1 false 0),o1 40 (.call 237 [39]),o1 41 (.nilchk 40),o1 42 (.ld 11 true 41),o1 43 (.call 257 [42,(ci 2)]),o1 36 (.mv 43),o1 44 (.ext 36 0),o1 45 (.ext 36 1),o1 46 (.nilchk 38),o2 (.st 11 46 44)] [(0,2),(1,2)]) .skip))))),[]⟩
theorem TQ:xf D8 275=some CY:=by kernel_rfl
theorem PW:CY.code.lf=true:=rfl
def Py:AFn:=⟨30,(.seq (.regT [o1 3 (.mv 0),o1 4 (.mv 0),o1 5 (.nilchk 4),o1 6 (.faddr 0 5),o1 7 (.faddr 12 6),o1 8 (.ld 1 false 7),o1 9 (.mv 0),o1 10 (.nilchk 9),o1 11 (.faddr 20 10),o1 12 (.ld 1 false 11),o1 13 (.call 89 [8,12]),o1 2 (.mv 13),o1 14 (.ext 2 0),o1 15 (.ext 2 1),o1 16 (.nilchk 3),o1 17 (.faddr 0 16),o1 18 (.faddr 12 17),o2 (.st 1 18 14)] [(2,7),(3,7),(4,7),(5,7),(2,8),(3,8),(4,8),(5,8),(2,9),(3,9),(4,9),(5,9)]) (.reg [o1 20 (.mv 0),o1 21 (.call 237 [20]),o1 22 (.mv 0),o1 23 (.call 237 [22]),o1 24 (.nilchk 23),o1 25 (.ld 11 true 24),o1 26 (.call 243 [25]),o1 19 (.mv 26),o1 27 (.ext 19 0),o1 28 (.ext 19 1),o1 29 (.nilchk 21),o2 (.st 11 29 27)])),[]⟩
theorem HH:xf D8 238=some Py:=by kernel_rfl
theorem Ya:Py.code.lf=true:=rfl
def lM:AFn:=⟨42,(.seq (.reg [o1 2 (.box 33 0),o1 4 (.alloc 33 [(.int .i64 0),(.int .i64 0),(.int .i64 0),(.int .i64 0),(.int .i64 0),(.int .i64 0),(.bool false),(.int .i64 0),(.int .i64 0),(.int .i64 0),.slnil,.slnil,.slnil,(.int .i64 0),.slnil,(.int .i64 0),.slnil,(.int .i64 0),.slnil,.slnil])]) (.seq (.reg [o1 8 (.ld 20 true 2),o1 9 (.call 41 [8,(ci (-1))]),o1 10 (.mv 1),o1 11 (.build [(.int .i64 0),(.int .i64 0),(.int .i64 0),(.int .i64 0),(.int .i64 0),(.int .i64 0),(.bool false),(.int .i64 0),(.int .i64 0),(.int .i64 0),.slnil,.slnil,.slnil,(.int .i64 0),.slnil,(.int .i64 0),.slnil,(.int .i64 0),.slnil,.slnil,(.int .i64 0)] [(0,20,9),(20,1,10)]),o1 12 (.box 225 11),o1 5 (.mv 12)]) (.seq (.seq (.reg [o1 13 (.ld 20 true 2),o1 14 (.mv 1),o1 15 (.call 235 [13,14]),o1 16 (.not 15)]) (.cond 16 (.seq (.reg [o1 17 (.mv 5),o1 18 (.nilchk 17),o1 19 (.faddr 0 18),o1 20 (.ld 20 true 19),o2 (.st 20 4 20)]) .ret) .skip)) (.seq (.reg [o1 22 (.mv 5),o1 23 (.call 236 [22]),o1 24 (.mv 5),o1 25 (.call 237 [24]),o1 26 (.nilchk 25),o1 27 (.faddr 4 26),o1 28 (.ld 1 false 27),o1 29 (.lkp .fnnil true 23 28),o1 21 (.mv 29),o1 30 (.ext 21 0),o1 31 (.ext 21 1),o1 6 (.mv 30),o1 7 (.mv 31)]) (.seq (.seq (.reg [o1 32 (.mv 7),o1 33 (.not 32)]) (.cond 33 (.reg [o1 34 (.mv 5),o1 35 (.mkfn (.func 238) [34] []),o1 6 (.mv 35)]) .skip)) (.seq (.reg [o1 36 (.mv 6),o1 37 (.callv 36 [])]) (.seq (.reg [o1 38 (.mv 5),o1 39 (.nilchk 38),o1 40 (.faddr 0 39),o1 41 (.ld 20 true 40),o2 (.st 20 4 41)]) .ret))))))),[(4,some (20,true))]⟩
theorem xK:xf D8 190=some lM:=by kernel_rfl
theorem Uw {aW aV:Int} {aN aX:Int} {aG aO:Int} {aA:Bool} {bT bV bU:Int} {aB:List Slot} {aD aC:List Int} {aZ:Int} {aT:List Int} {bA:Int} {aU:List Int} {aL:Int} {aE:List Thread} {aK:List Entry} {id:Int} (h1:aB.length≤100000000) (h2:aD.length≤100000000) (h3:aC.length≤100000000) (h4:aT.length≤100000000) (h5:aU.length≤100000000) (h6:aE.length≤100000000) (h7:aK.length≤100000000) (hI:nI (State.mk (Config.mk aW aV aN aX aG aO aA) (Word.mk bT bV bU) aB aD aC (Event.mk aZ aT) (Event.mk bA aU) aL aE aK) id=true) (hpc:(aE.getD id.toNat default).pc=0):cX D8 190 [.agg [.int .i64 aW,.int .i64 aV,.int .i64 aN,.int .i64 aX,.int .i64 aG,.int .i64 aO,.bool aA,.int .i64 bT,.int .i64 bV,.int .i64 bU,.slv 2 (aB.map cU),.slv 1 (aD.map aS),.slv 1 (aC.map aS),.int .i64 aZ,.slv 1 (aT.map aS),.int .i64 bA,.slv 1 (aU.map aS),.int .i64 aL,.slv 11 (aE.map bH),.slv 5 (aK.map cO)],.int .i64 id] (.agg (bR (Gp (State.mk (Config.mk aW aV aN aX aG aO aA) (Word.mk bT bV bU) aB aD aC (Event.mk aZ aT) (Event.mk bA aU) aL aE aK) id)),[],[]):=by
  have hI':=hI
  simp only [nI,cN,Bool.and_eq_true,decide_eq_true_eq] at hI'
  obtain ⟨⟨⟨⟨hchk,hge⟩,hlt⟩,hruns⟩,hside⟩:=hI'
  have hid:id.toNat<aE.length:=by omega
  have hne:aE≠[]:=by intro h; subst h; simp at hlt; omega
  refine aI bP xK (by simp [lM]) fun hw _=>?_
  clear hw
  repeat' with_reducible first|refine aQ (fun h=>?_) (fun h=>?_)|refine bB (fun h=>?_) (fun h=>?_)|refine aF (fun h=>?_) (fun h=>?_)|refine aH (fun h=>?_) (fun h=>?_)|refine FN ?_ ?_ ?_ ?_ rfl ?_|refine aR ?_ ?_|refine bC ?_ ?_|refine bM ?_ ?_|refine I2 bP TG PM ?_ ?_ ?_ ?_ ?_|refine I2 bP yW rZ ?_ ?_ ?_ ?_ ?_|refine Hf [(209,209),(241,210)] ?_ ?_ ?_|refine IA ?_ ?_ ?_|refine L1 ?_ ?_|refine L2 ?_ ?_|refine L3 ?_ ?_ ?_ ?_|refine L4 ?_ ?_|refine L5 ?_ ?_ ?_ ?_ ?_|refine L6 ?_ ?_ ?_ ?_ ?_|refine N1 (gF ?_ ?_ ?_ ?_ ?_ ?_ ?_ hne) ?_ ?_|refine P0 (lY ?_ ?_ ?_ ?_ ?_ ?_ ?_) ?_ ?_ ?_|refine I2 bP yS rV ?_ ?_ ?_ ?_ ?_|refine IA ?_ ?_ ?_|refine I3 bP yT rW ?_ ?_ ?_ ?_ ?_|refine I3 bP yX sA ?_ ?_ ?_ ?_ ?_|refine dE ?_ ?_ ?_ ?_|refine P0 (qF ?_) ?_ ?_ ?_|refine ACV.of (qF ?_) ?_ ?_ ?_|refine ACK.of (qF ?_) ?_ ?_|simp -implicitDefEqProofs only [lM,qA,bN,bD,bO,aJ,aP,qU,List.reduceReplicate,D4,D5,D3,D0,D6,reduceIte,reduceCtorEq,qI,E2,E1,CN,uR,cL,Int.toNat_natCast,bH,fM,eX,fJ,AV.isInt,dV,Blk.inN,Blk.nms,List.flatMap_cons,List.flatMap_nil,dM,dO,hX,hpc,hI,Int.reduceToNat,Nat.mul_one,cE,cG,Int.reduceLE,Int.reduceLT,Int.reduceEq,Int.reduceNe,Int.toNat_zero,Int.toNat_one,Int.le_refl,set_set,bG,uO,uS,uN, *]
  all_goals first
    | omega
    | (constructor <;> omega)
    | exact Wk.refl _
    | (simp only [nI,Bool.and_eq_true] at hI; with_reducible exact hI.1.1)
    | (refine Wk.of_eq ?_
       have htr:=eU hchk hge hlt
       try simp only [decide_eq_true_eq,decide_eq_false_iff_not,Bool.not_eq_true] at *
       unfold Gp
       try simp only [me] at *
       have hw:=cV htr
       clear hchk hI hside hruns htr
       try simp only [*,reduceIte,if_true,if_false,Bool.false_eq_true,and_true,true_and,and_false,false_and,and_self,not_true_eq_false,not_false_eq_true,ne_eq,Int.reduceEq,Int.reduceNe]
       try rw [List.take_of_length_le (by simp [cE,cG])]
       simp only [bR,dM,dO,kZ,cK,cR,eI,cQ,cH,vI,kM,fZ,gD,iD,fB,eP,kK,dD,dU,me,bG,set_set,List.length_set,gZ,fQ,eT,eS,eR,fP,eQ,hD,gQ,fH,eF,eE,eD,fG,eC,gS,gR,hG hpc, *]
       done)
    | skip

end Go.Sak
