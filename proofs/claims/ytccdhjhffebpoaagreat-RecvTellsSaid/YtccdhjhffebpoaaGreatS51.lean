/- Part S51 of the proofs about the program: K50. Conditions: none. -/
import Derived.Test.YtccdhjhffebpoaaGreatS22
import Derived.Test.YtccdhjhffebpoaaGreatS41
import Derived.Test.YtccdhjhffebpoaaGreatS04
import Derived.Test.YtccdhjhffebpoaaGreatProg
import Derived.KernelRfl
namespace Go.Sak
open Go Go.RowKit Go.Proofs
set_option linter.unusedVariables false
set_option linter.unusedSimpArgs false
set_option maxRecDepth 10000
set_option maxHeartbeats 8000000
def F86:AFn:=⟨37,(.seq (.reg [o1 2 (.box 33 0),o1 4 (.mv (.const (.bool false)))]) (.seq (.reg [o1 5 (.ld 20 true 2),o1 6 (.call 33 [5]),o1 7 (.mv 6),o3 8 (.mv 1) 7,o3 9 (.bin .geq 8 (ci 0)) 7,o1 10 (.pick 7 9 (.const (.bool false))),o1 11 (.mv 10),o3 12 (.mv 1) 11,o3 13 (.faddr 18 2) 11,o3 14 (.ld 1 false 13) 11,o3 15 (.len 14) 11,o3 16 (.bin .lss 12 15) 11,o1 17 (.pick 11 16 (.const (.bool false))),o1 18 (.mv 17),o3 19 (.faddr 18 2) 18,o3 20 (.ld 1 false 19) 18,o3 21 (.mv 1) 18,o3 22 (.iaddr 11 20 21) 18,o3 23 (.ld 11 true 22) 18,o3 24 (.call 133 [23]) 18,o3 25 (.bin .eql 24 (ci 0)) 18,o1 26 (.pick 18 25 (.const (.bool false))),o1 27 (.mv 26),o3 28 (.faddr 18 2) 27,o3 29 (.ld 1 false 28) 27,o3 30 (.mv 1) 27,o3 31 (.iaddr 11 29 30) 27,o3 32 (.faddr 1 31) 27,o3 33 (.ld 1 false 32) 27,o3 34 (.call 134 [33]) 27,o3 35 (.bin .eql 34 (ci 2)) 27,o1 36 (.pick 27 35 (.const (.bool false))),o1 4 (.mv 36)]) .ret)),[(4,none)]⟩
theorem x86:xf Tryz.prog 86=some F86:=by kernel_rfl
theorem con86 {s_lg s_th:Int} {s_pol s_wt:Int} {s_spin s_yld:Int} {s_single:Bool} {s_h s_t s_m:Int} {s_slots:List Slot} {s_sends s_recvs:List Int} {s_fe:Int} {s_fl:List Int} {s_ee:Int} {s_el:List Int} {s_now:Int} {s_thr:List Thread} {s_log:List Entry} {id:Int} (h1:s_slots.length≤100000000) (h2:s_sends.length≤100000000) (h3:s_recvs.length≤100000000) (h4:s_fl.length≤100000000) (h5:s_el.length≤100000000) (h6:s_thr.length≤100000000) (h7:s_log.length≤100000000):Con Tryz.prog 86 [.agg [.int .i64 s_lg,.int .i64 s_th,.int .i64 s_pol,.int .i64 s_wt,.int .i64 s_spin,.int .i64 s_yld,.bool s_single,.int .i64 s_h,.int .i64 s_t,.int .i64 s_m,.slv 2 (s_slots.map encS),.slv 1 (s_sends.map encI),.slv 1 (s_recvs.map encI),.int .i64 s_fe,.slv 1 (s_fl.map encI),.int .i64 s_ee,.slv 1 (s_el.map encI),.int .i64 s_now,.slv 11 (s_thr.map encT),.slv 5 (s_log.map encE)],.int .i64 id] (.bool (gIs (State.mk (Config.mk s_lg s_th s_pol s_wt s_spin s_yld s_single) (Word.mk s_h s_t s_m) s_slots s_sends s_recvs (Event.mk s_fe s_fl) (Event.mk s_ee s_el) s_now s_thr s_log) id),[],[]):=by
  refine mcb_of_vc mix x86 (by simp [F86]) fun hw _=>?_
  clear hw
  repeat' with_reducible first|refine gTn_of (fun h=>?_) (fun h=>?_)|refine gT_of (fun h=>?_) (fun h=>?_)|refine caseTn_of (fun h=>?_) (fun h=>?_)|refine caseT_of (fun h=>?_) (fun h=>?_)|refine fin_pure ?_ ?_ ?_ ?_|refine kv_ifn ?_ ?_|refine kv_if ?_ ?_|refine k_if ?_ ?_|refine P0 (con33 ?_ ?_ ?_ ?_ ?_ ?_ ?_) ?_ ?_ ?_|refine ia_of (d:=default) ?_ ?_|refine L1 ?_ ?_|refine L2 ?_ ?_|refine L3 ?_ ?_ ?_ ?_|refine L4 ?_ ?_|refine L5 ?_ ?_ ?_ ?_ ?_|refine L6 ?_ ?_ ?_ ?_ ?_|refine P0 (con133) ?_ ?_ ?_|refine ACV.of (con133) ?_ ?_ ?_|refine ACK.of (con133) ?_ ?_|refine P0 (con134) ?_ ?_ ?_|refine ACV.of (con134) ?_ ?_ ?_|refine ACK.of (con134) ?_ ?_|simp -implicitDefEqProofs only [F86,qA,ld_0,ld_pv,st_0,splice,doEqs,qU,List.reduceReplicate,Nat.reduceAdd,Nat.reduceSub,Nat.reduceLeDiff,Nat.reduceEqDiff,Nat.reduceMul,reduceIte,reduceCtorEq,qI,Nat.reduceLT,Nat.reduceBEq,encT,Int.toNat_natCast, *]
  all_goals first
    | omega
    | (simp at *; omega)
    | grind [gIs,fabIs,me]
    | (simp only [gIs,fabIs,me]; simp_all; done)
    | (simp only [gIs,fabIs,me]; simp_all; omega)
    | trace_state

theorem gIs_fab {s:State} {id:Int} (h:gIs s id=true):fabIs s id=true:=by
  simp only [gIs,Bool.and_eq_true] at h; exact h.1.1
section
variable {κ:Ef→Prop} {m:AM} {b:Nat}
theorem IAm {m':AM} {b' g:Nat} (ren:List (Nat×Nat)) (h1:stOk b (b+15) [] ren m'=true)
    (h3:inlOk b m [] ren ((AV.mapm g).tr (stT b (b+15) [] ren m')) (stM b (b+15) [] ren (stT b (b+15) [] ren m') m')=true)
    (h4:κ ((AV.mapm g).tr (stT b (b+15) [] ren m'),inlU m (stM b (b+15) [] ren (stT b (b+15) [] ren m') m'),m.map (·.1))):inlK b m κ (.mapm g) m' b':=⟨[],ren,h1,rfl,h3,h4⟩
end
def F88:AFn:=⟨13,(.seq (.reg [o1 2 (.mv (.const .nilp))]) (.seq (.regT [o1 3 (.mv 0),o1 4 (.nilchk 3),o1 5 (.faddr 0 4),o1 6 (.faddr 18 5),o1 7 (.ld 1 false 6),o1 8 (.mv 0),o1 9 (.nilchk 8),o1 10 (.faddr 20 9),o1 11 (.ld 1 false 10),o1 12 (.iaddr 11 7 11),o1 2 (.mv 12)] [(1,6),(2,6),(3,6),(4,6),(1,7),(2,7),(3,7),(4,7),(1,8),(2,8),(3,8),(4,8)]) .ret)),[(2,none)]⟩
theorem x88:xf Tryz.prog 88=some F88:=by kernel_rfl
theorem lf88:F88.code.lf=true:=rfl
def F183:AFn:=⟨21,(.seq (.reg [o1 2 (.mv (ci 0))]) (.seq (.regT [o1 6 (.mv 0),o1 7 (.nilchk 6),o1 8 (.faddr 0 7),o1 9 (.faddr 7 8),o1 10 (.ld 3 true 9),o1 11 (.mv 0),o1 12 (.nilchk 11),o1 13 (.faddr 0 12),o1 14 (.faddr 10 13),o1 15 (.ld 1 false 14),o1 16 (.len 15),o1 17 (.call 142 [10,16]),o1 5 (.mv 17),o1 18 (.ext 5 0),o1 19 (.ext 5 1),o1 3 (.mv 18),o1 4 (.mv 19)] [(1,6),(2,6),(3,6),(4,6),(1,7),(2,7),(3,7),(4,7),(1,8),(2,8),(3,8),(4,8),(1,9),(2,9),(3,9),(4,9),(1,10),(2,10),(3,10),(4,10)]) (.seq (.reg [o1 20 (.mv 4),o1 2 (.mv 20)]) .ret))),[(2,none)]⟩
theorem x183:xf Tryz.prog 183=some F183:=by kernel_rfl
theorem lf183:F183.code.lf=true:=rfl
def F178:AFn:=⟨9,(.reg [o1 4 (.mv 0),o1 5 (.call 88 [4]),o1 6 (.mv 1),o1 7 (.nilchk 5),o1 8 (.faddr 4 7),o2 (.st 1 8 6)]),[]⟩
theorem x178:xf Tryz.prog 178=some F178:=by kernel_rfl
theorem lf178:F178.code.lf=true:=rfl
def F243:AFn:=⟨30,(.seq (.regT [o1 8 (.mv 0),o1 9 (.mv 0),o1 10 (.nilchk 9),o1 11 (.faddr 0 10),o1 12 (.ld 20 true 11),o1 13 (.mv 0),o1 14 (.nilchk 13),o1 15 (.faddr 20 14),o1 16 (.ld 1 false 15),o1 17 (.mv 0),o1 18 (.call 88 [17]),o1 19 (.nilchk 18),o1 20 (.faddr 1 19),o1 21 (.ld 1 false 20),o1 22 (.mv 1),o1 23 (.mv 2),o1 24 (.call 237 [12,16,21,22,23]),o1 25 (.nilchk 8),o1 26 (.faddr 0 25),o2 (.st 20 26 24)] [(2,6),(3,6),(4,6),(2,7),(3,7),(4,7),(2,8),(3,8),(4,8),(2,10),(3,10),(4,10),(6,10),(7,10),(8,10),(2,11),(3,11),(4,11),(6,11),(7,11),(8,11),(2,12),(3,12),(4,12),(6,12),(7,12),(8,12),(2,13),(3,13),(4,13),(6,13),(7,13),(8,13)]) (.reg [o1 27 (.mv 0),o1 28 (.mv 3),o1 29 (.call 178 [27,28])])),[]⟩
theorem x243:xf Tryz.prog 243=some F243:=by kernel_rfl
theorem lf243:F243.code.lf=true:=rfl
def F180:AFn:=⟨7,(.reg [o1 4 (.mv 0),o1 5 (.mv 1),o1 6 (.call 243 [4,5,(ci 0),(ci 9)])]),[]⟩
theorem x180:xf Tryz.prog 180=some F180:=by kernel_rfl
theorem lf180:F180.code.lf=true:=rfl
def F181:AFn:=⟨13,(.reg [o1 2 (.mv 0),o1 3 (.call 88 [2]),o1 4 (.mv 0),o1 5 (.call 88 [4]),o1 6 (.nilchk 5),o1 7 (.faddr 7 6),o1 8 (.ld 1 false 7),o1 9 (.bin .add 8 (ci 1)),o1 10 (.mn 9 (ci 1099511627776)),o1 11 (.nilchk 3),o1 12 (.faddr 7 11),o2 (.st 1 12 10)]),[]⟩
theorem x181:xf Tryz.prog 181=some F181:=by kernel_rfl
theorem lf181:F181.code.lf=true:=rfl
def F184:AFn:=⟨36,(.seq (.reg [o1 3 (.mv 0),o1 4 (.call 88 [3]),o1 2 (.mv 4)]) (.block 0 (.seq (.reg [o1 8 (.mv 2),o1 9 (.nilchk 8),o1 10 (.faddr 1 9),o1 11 (.ld 1 false 10),o1 12 (.bin .eql 11 (ci 5)),o1 7 (.mv 12)]) (.cond 7 (.reg [o1 13 (.mv 0),o1 14 (.call 180 [13,(ci 4)])]) (.seq (.reg [o1 16 (.mv 2),o1 17 (.nilchk 16),o1 18 (.faddr 8 17),o1 19 (.ld 1 false 18),o1 15 (.mv 19)]) (.cond 15 (.reg [o1 20 (.mv 0),o1 21 (.call 180 [20,(ci 5)])]) (.seq (.regT [o1 23 (.mv 0),o1 24 (.nilchk 23),o1 25 (.faddr 0 24),o1 26 (.faddr 0 25),o1 27 (.ld 7 true 26),o1 28 (.mv 2),o1 29 (.nilchk 28),o1 30 (.faddr 7 29),o1 31 (.ld 1 false 30),o1 32 (.call 231 [27,31]),o1 33 (.bin .eql 32 (ci 2)),o1 22 (.mv 33)] [(1,6),(2,6),(3,6),(4,6),(1,7),(2,7),(3,7),(4,7),(1,8),(2,8),(3,8),(4,8)]) (.cond 22 (.reg [o1 34 (.mv 0),o1 35 (.call 178 [34,(ci 5)])]) (.reg [o1 5 (.mv 0),o1 6 (.call 181 [5])]))))))))),[]⟩
theorem x184:xf Tryz.prog 184=some F184:=by kernel_rfl
theorem lf184:F184.code.lf=true:=rfl
def F185:AFn:=⟨52,(.seq (.regT [o1 7 (.mv 0),o1 8 (.nilchk 7),o1 9 (.faddr 0 8),o1 10 (.faddr 7 9),o1 11 (.ld 3 true 10),o1 12 (.mv 0),o1 13 (.nilchk 12),o1 14 (.faddr 0 13),o1 15 (.faddr 10 14),o1 16 (.ld 1 false 15),o1 17 (.len 16),o1 18 (.call 230 [11,17]),o1 6 (.mv 18),o1 19 (.ext 6 0),o1 20 (.ext 6 1),o1 21 (.ext 6 2),o1 2 (.alloc 25 [(.int .i64 0),(.int .i64 0),(.int .i64 0)]),o2 (.st 3 2 19),o1 3 (.mv 20),o1 4 (.mv 21)] [(1,6),(2,6),(3,6),(4,6),(1,7),(2,7),(3,7),(4,7),(1,8),(2,8),(3,8),(4,8),(1,9),(2,9),(3,9),(4,9),(1,10),(2,10),(3,10),(4,10),(1,16),(2,16),(3,16),(4,16),(6,16),(7,16),(8,16),(9,16),(10,16),(11,16)]) (.seq (.reg [o1 22 (.mv 4)]) (.block 0 (.seq (.reg [o1 27 (.bin .eql 22 (ci 1)),o1 26 (.mv 27)]) (.cond 26 (.seq (.reg [o1 28 (.mv 0),o1 29 (.nilchk 28),o1 30 (.faddr 0 29),o1 31 (.ld 20 true 30),o1 32 (.mv 3),o1 33 (.call 154 [31,32]),o1 5 (.mv 33)]) (.seq (.reg [o1 34 (.mv 0),o1 35 (.ld 3 true 2),o1 36 (.nilchk 34),o1 37 (.faddr 0 36),o1 38 (.faddr 7 37),o2 (.st 3 38 35)]) (.seq (.reg [o1 39 (.mv 0),o1 40 (.call 88 [39]),o1 41 (.mv 3),o1 42 (.nilchk 40),o1 43 (.faddr 5 42),o2 (.st 1 43 41)]) (.reg [o1 44 (.mv 0),o1 45 (.mv 4),o1 46 (.mv 5),o1 47 (.call 243 [44,45,46,(ci 4)])])))) (.seq (.reg [o1 49 (.bin .eql 22 (ci 4)),o1 48 (.mv 49)]) (.cond 48 (.reg [o1 50 (.mv 0),o1 51 (.call 178 [50,(ci 2)])]) (.reg [o1 23 (.mv 0),o1 24 (.mv 4),o1 25 (.call 180 [23,24])])))))))),[]⟩
theorem x185:xf Tryz.prog 185=some F185:=by kernel_rfl
theorem lf185:F185.code.lf=true:=rfl
def F87:AFn:=⟨15,(.seq (.reg [o1 1 (.box 106 0),o1 2 (.mv (.const .mapnil))]) (.seq (.reg [o1 3 (.mkmap),o1 4 (.mkfn (.func 177) [] [1]),o2 (.mupd 3 (ci 0) 4),o1 5 (.mkfn (.func 179) [] [1]),o2 (.mupd 3 (ci 1) 5),o1 6 (.mkfn (.func 182) [] [1]),o2 (.mupd 3 (ci 2) 6),o1 7 (.ld 1 false 1),o1 8 (.mkfn (.func 185) [7] []),o2 (.mupd 3 (ci 3) 8),o1 9 (.mkfn (.func 186) [] [1]),o2 (.mupd 3 (ci 4) 9),o1 10 (.mkfn (.func 188) [] [1]),o2 (.mupd 3 (ci 5) 10),o1 11 (.mkfn (.func 189) [] [1]),o2 (.mupd 3 (ci 6) 11),o1 12 (.mkfn (.func 190) [] [1]),o2 (.mupd 3 (ci 7) 12),o1 13 (.mkfn (.func 191) [] [1]),o2 (.mupd 3 (ci 8) 13),o1 14 (.mv 3),o1 2 (.mv 14)]) .ret)),[(2,none)]⟩
theorem x87:xf Tryz.prog 87=some F87:=by kernel_rfl
theorem lf87:F87.code.lf=true:=rfl
def F177:AFn:=⟨20,(.seq (.regT [o1 2 (.ld 1 false 0),o1 3 (.ld 1 false 0),o1 4 (.nilchk 3),o1 5 (.faddr 0 4),o1 6 (.faddr 12 5),o1 7 (.ld 1 false 6),o1 8 (.ld 1 false 0),o1 9 (.nilchk 8),o1 10 (.faddr 20 9),o1 11 (.ld 1 false 10),o1 12 (.call 137 [7,11]),o1 1 (.mv 12),o1 13 (.ext 1 0),o1 14 (.ext 1 1),o1 15 (.nilchk 2),o1 16 (.faddr 0 15),o1 17 (.faddr 12 16),o2 (.st 1 17 13)] [(0,1),(0,2),(0,3),(0,4),(0,5),(0,6),(1,6),(2,6),(3,6),(4,6),(5,6),(0,7),(1,7),(2,7),(3,7),(4,7),(5,7),(0,8),(1,8),(2,8),(3,8),(4,8),(5,8),(0,9),(1,9),(2,9),(3,9),(4,9),(5,9),(0,10)]) (.reg [o1 18 (.ld 1 false 0),o1 19 (.call 178 [18,(ci 1)])])),[]⟩
theorem x177:xf Tryz.prog 177=some F177:=by kernel_rfl
theorem lf177:F177.code.lf=true:=rfl
def F179:AFn:=⟨24,(.block 0 (.seq (.regT [o1 4 (.ld 1 false 0),o1 5 (.nilchk 4),o1 6 (.faddr 0 5),o1 7 (.faddr 12 6),o1 8 (.ld 1 false 7),o1 9 (.ld 1 false 0),o1 10 (.nilchk 9),o1 11 (.faddr 20 10),o1 12 (.ld 1 false 11),o1 13 (.call 139 [8,12]),o1 3 (.mv 13)] [(0,5),(1,5),(2,5),(3,5),(4,5),(0,6),(1,6),(2,6),(3,6),(4,6),(0,7),(1,7),(2,7),(3,7),(4,7),(0,8),(1,8),(2,8),(3,8),(4,8)]) (.cond 3 (.reg [o1 14 (.ld 1 false 0),o1 15 (.call 178 [14,(ci 2)])]) (.seq (.reg [o1 17 (.ld 1 false 0),o1 18 (.call 88 [17]),o1 19 (.nilchk 18),o1 20 (.faddr 8 19),o1 21 (.ld 1 false 20),o1 16 (.mv 21)]) (.cond 16 (.reg [o1 22 (.ld 1 false 0),o1 23 (.call 180 [22,(ci 5)])]) (.reg [o1 1 (.ld 1 false 0),o1 2 (.call 181 [1])])))))),[]⟩
theorem x179:xf Tryz.prog 179=some F179:=by kernel_rfl
theorem lf179:F179.code.lf=true:=rfl
def F182:AFn:=⟨16,(.seq (.reg [o1 2 (.ld 1 false 0),o1 3 (.call 183 [2]),o1 1 (.mv 3)]) (.seq (.reg [o1 4 (.mv 1)]) (.block 0 (.seq (.reg [o1 9 (.bin .eql 4 (ci 1)),o1 8 (.mv 9)]) (.cond 8 (.reg [o1 10 (.ld 1 false 0),o1 11 (.call 178 [10,(ci 3)])]) (.seq (.reg [o1 13 (.bin .eql 4 (ci 4)),o1 12 (.mv 13)]) (.cond 12 (.reg [o1 14 (.ld 1 false 0),o1 15 (.call 184 [14])]) (.reg [o1 5 (.ld 1 false 0),o1 6 (.mv 1),o1 7 (.call 180 [5,6])])))))))),[]⟩
theorem x182:xf Tryz.prog 182=some F182:=by kernel_rfl
theorem lf182:F182.code.lf=true:=rfl
def F186:AFn:=⟨39,(.seq (.reg [o1 2 (.ld 1 false 0),o1 3 (.call 88 [2]),o1 1 (.mv 3)]) (.seq (.regT [o1 5 (.mv 1),o1 6 (.ld 1 false 0),o1 7 (.nilchk 6),o1 8 (.faddr 0 7),o1 9 (.faddr 10 8),o1 10 (.ld 1 false 9),o1 11 (.mv 1),o1 12 (.nilchk 11),o1 13 (.faddr 5 12),o1 14 (.ld 1 false 13),o1 15 (.call 187 [10,14]),o1 4 (.mv 15),o1 16 (.ext 4 0),o1 17 (.ext 4 1),o1 18 (.nilchk 5),o1 19 (.faddr 10 18),o2 (.st 1 19 16)] [(1,7),(2,7),(3,7),(4,7),(5,7),(1,8),(2,8),(3,8),(4,8),(5,8),(1,9),(2,9),(3,9),(4,9),(5,9)]) (.seq (.regT [o1 21 (.ld 1 false 0),o1 22 (.ld 1 false 0),o1 23 (.nilchk 22),o1 24 (.faddr 0 23),o1 25 (.faddr 10 24),o1 26 (.ld 1 false 25),o1 27 (.mv 1),o1 28 (.nilchk 27),o1 29 (.faddr 5 28),o1 30 (.ld 1 false 29),o1 31 (.call 156 [26,30]),o1 20 (.mv 31),o1 32 (.ext 20 0),o1 33 (.ext 20 1),o1 34 (.nilchk 21),o1 35 (.faddr 0 34),o1 36 (.faddr 10 35),o2 (.st 1 36 32)] [(0,1),(0,2),(0,3),(0,4),(0,5),(0,7),(1,7),(2,7),(3,7),(4,7),(5,7),(0,8),(1,8),(2,8),(3,8),(4,8),(5,8),(0,9),(1,9),(2,9),(3,9),(4,9),(5,9),(0,10)]) (.reg [o1 37 (.ld 1 false 0),o1 38 (.call 178 [37,(ci 6)])])))),[]⟩
theorem x186:xf Tryz.prog 186=some F186:=by kernel_rfl
theorem lf186:F186.code.lf=true:=rfl
def F188:AFn:=⟨13,(.seq (.regT [o1 1 (.ld 1 false 0),o1 2 (.call 88 [1]),o1 3 (.ld 1 false 0),o1 4 (.nilchk 3),o1 5 (.faddr 0 4),o1 6 (.faddr 15 5),o1 7 (.ld 2 true 6),o1 8 (.call 148 [7]),o1 9 (.nilchk 2),o1 10 (.faddr 6 9),o2 (.st 1 10 8)] [(0,2),(1,2),(0,3),(1,3),(0,4),(1,4),(0,5),(1,5),(0,6),(1,6)]) (.reg [o1 11 (.ld 1 false 0),o1 12 (.call 178 [11,(ci 7)])])),[]⟩
theorem x188:xf Tryz.prog 188=some F188:=by kernel_rfl
theorem lf188:F188.code.lf=true:=rfl
def F189:AFn:=⟨31,(.seq (.reg [o1 5 (.ld 1 false 0),o1 6 (.nilchk 5),o1 7 (.faddr 0 6),o1 8 (.faddr 13 7),o1 9 (.ld 2 true 8),o1 10 (.call 149 [9]),o1 4 (.mv 10),o1 11 (.ext 4 0),o1 12 (.ext 4 1),o1 13 (.ext 4 2),o1 1 (.alloc 29 [(.int .i64 0),.slnil]),o2 (.st 2 1 11),o1 2 (.mv 12),o1 3 (.mv 13)]) (.seq (.seq (.reg [o1 14 (.ld 1 false 0),o1 15 (.ld 2 true 1),o1 16 (.nilchk 14),o1 17 (.faddr 0 16),o1 18 (.faddr 13 17),o2 (.st 2 18 15)]) (.seq (.reg [o1 19 (.mv 3)]) (.cond 19 (.regT [o1 20 (.ld 1 false 0),o1 21 (.ld 1 false 0),o1 22 (.nilchk 21),o1 23 (.faddr 0 22),o1 24 (.ld 20 true 23),o1 25 (.mv 2),o1 26 (.call 50 [24,25]),o1 27 (.nilchk 20),o1 28 (.faddr 0 27),o2 (.st 20 28 26)] [(0,1),(0,2),(0,3),(0,4),(0,6)]) .skip))) (.reg [o1 29 (.ld 1 false 0),o1 30 (.call 178 [29,(ci 9)])]))),[]⟩
theorem x189:xf Tryz.prog 189=some F189:=by kernel_rfl
theorem lf189:F189.code.lf=true:=rfl
def F190:AFn:=⟨16,(.seq (.reg [o1 1 (.ld 1 false 0),o1 2 (.call 178 [1,(ci 2)])]) (.seq (.reg [o1 3 (.ld 1 false 0),o1 4 (.call 183 [3]),o1 5 (.bin .eql 4 (ci 4)),o1 6 (.mv 5),o3 7 (.ld 1 false 0) 6,o3 8 (.call 88 [7]) 6,o3 9 (.nilchk 8) 6,o3 10 (.faddr 8 9) 6,o3 11 (.ld 1 false 10) 6,o3 12 (.not 11) 6,o1 13 (.pick 6 12 (.const (.bool false)))]) (.cond 13 (.reg [o1 14 (.ld 1 false 0),o1 15 (.call 178 [14,(ci 8)])]) .skip))),[]⟩
theorem x190:xf Tryz.prog 190=some F190:=by kernel_rfl
theorem lf190:F190.code.lf=true:=rfl
def F191:AFn:=⟨47,(.seq (.seq (.reg [o1 4 (.ld 1 false 0),o1 5 (.call 178 [4,(ci 2)])]) (.seq (.reg [o1 6 (.ld 1 false 0),o1 7 (.call 88 [6]),o1 8 (.nilchk 7),o1 9 (.faddr 8 8),o1 10 (.ld 1 false 9)]) (.cond 10 .ret .skip))) (.seq (.regT [o1 12 (.ld 1 false 0),o1 13 (.nilchk 12),o1 14 (.faddr 0 13),o1 15 (.faddr 15 14),o1 16 (.ld 2 true 15),o1 17 (.ld 1 false 0),o1 18 (.call 88 [17]),o1 19 (.nilchk 18),o1 20 (.faddr 6 19),o1 21 (.ld 1 false 20),o1 22 (.ld 1 false 0),o1 23 (.nilchk 22),o1 24 (.faddr 20 23),o1 25 (.ld 1 false 24),o1 26 (.call 150 [16,21,25]),o1 11 (.mv 26),o1 27 (.ext 11 0),o1 28 (.ext 11 1),o1 29 (.ext 11 2),o1 1 (.alloc 29 [(.int .i64 0),.slnil]),o2 (.st 2 1 27),o1 2 (.mv 28),o1 3 (.mv 29)] [(0,5),(1,5),(2,5),(3,5),(4,5),(0,6),(1,6),(2,6),(3,6),(4,6),(0,7),(1,7),(2,7),(3,7),(4,7),(0,8),(1,8),(2,8),(3,8),(4,8),(0,9),(1,9),(2,9),(3,9),(4,9),(0,10),(1,10),(2,10),(3,10),(4,10),(5,10),(6,10),(7,10),(8,10),(9,10),(0,11),(1,11),(2,11),(3,11),(4,11),(5,11),(6,11),(7,11),(8,11),(9,11),(0,12),(1,12),(2,12),(3,12),(4,12),(5,12),(6,12),(7,12),(8,12),(9,12),(0,13),(1,13),(2,13),(3,13),(4,13),(5,13),(6,13),(7,13),(8,13),(9,13),(0,19),(1,19),(2,19),(3,19),(4,19),(5,19),(6,19),(7,19),(8,19),(9,19),(10,19),(11,19),(12,19),(13,19),(14,19)]) (.seq (.reg [o1 30 (.ld 1 false 0),o1 31 (.ld 2 true 1),o1 32 (.nilchk 30),o1 33 (.faddr 0 32),o1 34 (.faddr 15 33),o2 (.st 2 34 31)]) (.seq (.reg [o1 35 (.mv 2)]) (.cond 35 (.regT [o1 37 (.ld 1 false 0),o1 38 (.call 88 [37]),o1 39 (.ld 1 false 0),o1 40 (.call 88 [39]),o1 41 (.nilchk 40),o1 42 (.ld 11 true 41),o1 43 (.call 151 [42,(ci 2)]),o1 36 (.mv 43),o1 44 (.ext 36 0),o1 45 (.ext 36 1),o1 46 (.nilchk 38),o2 (.st 11 46 44)] [(0,2),(1,2)]) .skip))))),[]⟩
theorem x191:xf Tryz.prog 191=some F191:=by kernel_rfl
theorem lf191:F191.code.lf=true:=rfl
def F89:AFn:=⟨30,(.seq (.regT [o1 3 (.mv 0),o1 4 (.mv 0),o1 5 (.nilchk 4),o1 6 (.faddr 0 5),o1 7 (.faddr 12 6),o1 8 (.ld 1 false 7),o1 9 (.mv 0),o1 10 (.nilchk 9),o1 11 (.faddr 20 10),o1 12 (.ld 1 false 11),o1 13 (.call 152 [8,12]),o1 2 (.mv 13),o1 14 (.ext 2 0),o1 15 (.ext 2 1),o1 16 (.nilchk 3),o1 17 (.faddr 0 16),o1 18 (.faddr 12 17),o2 (.st 1 18 14)] [(2,7),(3,7),(4,7),(5,7),(2,8),(3,8),(4,8),(5,8),(2,9),(3,9),(4,9),(5,9)]) (.reg [o1 20 (.mv 0),o1 21 (.call 88 [20]),o1 22 (.mv 0),o1 23 (.call 88 [22]),o1 24 (.nilchk 23),o1 25 (.ld 11 true 24),o1 26 (.call 153 [25]),o1 19 (.mv 26),o1 27 (.ext 19 0),o1 28 (.ext 19 1),o1 29 (.nilchk 21),o2 (.st 11 29 27)])),[]⟩
theorem x89:xf Tryz.prog 89=some F89:=by kernel_rfl
theorem lf89:F89.code.lf=true:=rfl
def F27:AFn:=⟨42,(.seq (.reg [o1 2 (.box 33 0),o1 4 (.alloc 33 [(.int .i64 0),(.int .i64 0),(.int .i64 0),(.int .i64 0),(.int .i64 0),(.int .i64 0),(.bool false),(.int .i64 0),(.int .i64 0),(.int .i64 0),.slnil,.slnil,.slnil,(.int .i64 0),.slnil,(.int .i64 0),.slnil,(.int .i64 0),.slnil,.slnil])]) (.seq (.reg [o1 8 (.ld 20 true 2),o1 9 (.call 50 [8,(ci (-1))]),o1 10 (.mv 1),o1 11 (.build [(.int .i64 0),(.int .i64 0),(.int .i64 0),(.int .i64 0),(.int .i64 0),(.int .i64 0),(.bool false),(.int .i64 0),(.int .i64 0),(.int .i64 0),.slnil,.slnil,.slnil,(.int .i64 0),.slnil,(.int .i64 0),.slnil,(.int .i64 0),.slnil,.slnil,(.int .i64 0)] [(0,20,9),(20,1,10)]),o1 12 (.box 108 11),o1 5 (.mv 12)]) (.seq (.seq (.reg [o1 13 (.ld 20 true 2),o1 14 (.mv 1),o1 15 (.call 86 [13,14]),o1 16 (.not 15)]) (.cond 16 (.seq (.reg [o1 17 (.mv 5),o1 18 (.nilchk 17),o1 19 (.faddr 0 18),o1 20 (.ld 20 true 19),o2 (.st 20 4 20)]) .ret) .skip)) (.seq (.reg [o1 22 (.mv 5),o1 23 (.call 87 [22]),o1 24 (.mv 5),o1 25 (.call 88 [24]),o1 26 (.nilchk 25),o1 27 (.faddr 4 26),o1 28 (.ld 1 false 27),o1 29 (.lkp .fnnil true 23 28),o1 21 (.mv 29),o1 30 (.ext 21 0),o1 31 (.ext 21 1),o1 6 (.mv 30),o1 7 (.mv 31)]) (.seq (.seq (.reg [o1 32 (.mv 7),o1 33 (.not 32)]) (.cond 33 (.reg [o1 34 (.mv 5),o1 35 (.mkfn (.func 89) [34] []),o1 6 (.mv 35)]) .skip)) (.seq (.reg [o1 36 (.mv 6),o1 37 (.callv 36 [])]) (.seq (.reg [o1 38 (.mv 5),o1 39 (.nilchk 38),o1 40 (.faddr 0 39),o1 41 (.ld 20 true 40),o2 (.st 20 4 41)]) .ret))))))),[(4,some (20,true))]⟩
theorem x27:xf Tryz.prog 27=some F27:=by kernel_rfl
theorem con27_0 {s_lg s_th:Int} {s_pol s_wt:Int} {s_spin s_yld:Int} {s_single:Bool} {s_h s_t s_m:Int} {s_slots:List Slot} {s_sends s_recvs:List Int} {s_fe:Int} {s_fl:List Int} {s_ee:Int} {s_el:List Int} {s_now:Int} {s_thr:List Thread} {s_log:List Entry} {id:Int} (h1:s_slots.length≤100000000) (h2:s_sends.length≤100000000) (h3:s_recvs.length≤100000000) (h4:s_fl.length≤100000000) (h5:s_el.length≤100000000) (h6:s_thr.length≤100000000) (h7:s_log.length≤100000000) (hI:gIs (State.mk (Config.mk s_lg s_th s_pol s_wt s_spin s_yld s_single) (Word.mk s_h s_t s_m) s_slots s_sends s_recvs (Event.mk s_fe s_fl) (Event.mk s_ee s_el) s_now s_thr s_log) id=true) (hpc:(s_thr.getD id.toNat default).pc=0):Con Tryz.prog 27 [.agg [.int .i64 s_lg,.int .i64 s_th,.int .i64 s_pol,.int .i64 s_wt,.int .i64 s_spin,.int .i64 s_yld,.bool s_single,.int .i64 s_h,.int .i64 s_t,.int .i64 s_m,.slv 2 (s_slots.map encS),.slv 1 (s_sends.map encI),.slv 1 (s_recvs.map encI),.int .i64 s_fe,.slv 1 (s_fl.map encI),.int .i64 s_ee,.slv 1 (s_el.map encI),.int .i64 s_now,.slv 11 (s_thr.map encT),.slv 5 (s_log.map encE)],.int .i64 id] (.agg (encZ (gEnter (State.mk (Config.mk s_lg s_th s_pol s_wt s_spin s_yld s_single) (Word.mk s_h s_t s_m) s_slots s_sends s_recvs (Event.mk s_fe s_fl) (Event.mk s_ee s_el) s_now s_thr s_log) id)),[],[]):=by
  have hI':=hI
  simp only [gIs,fabIs,Bool.and_eq_true,decide_eq_true_eq] at hI'
  obtain ⟨⟨⟨⟨hchk,hge⟩,hlt⟩,hruns⟩,hside⟩:=hI'
  have hid:id.toNat<s_thr.length:=by omega
  have hne:s_thr≠[]:=by intro h; subst h; simp at hlt; omega
  refine mcb_of_vc mix x27 (by simp [F27]) fun hw _=>?_
  clear hw
  repeat' with_reducible first|refine gTn_of (fun h=>?_) (fun h=>?_)|refine gT_of (fun h=>?_) (fun h=>?_)|refine caseTn_of (fun h=>?_) (fun h=>?_)|refine caseT_of (fun h=>?_) (fun h=>?_)|refine FN ?_ ?_ ?_ ?_ rfl ?_|refine kv_ifn ?_ ?_|refine kv_if ?_ ?_|refine k_if ?_ ?_|refine I2 mix x177 lf177 ?_ ?_ ?_ ?_ ?_|refine I2 mix x178 lf178 ?_ ?_ ?_ ?_ ?_|refine IAm [(209,209),(241,210)] ?_ ?_ ?_|refine IA ?_ ?_ ?_|refine L1 ?_ ?_|refine L2 ?_ ?_|refine L3 ?_ ?_ ?_ ?_|refine L4 ?_ ?_|refine L5 ?_ ?_ ?_ ?_ ?_|refine L6 ?_ ?_ ?_ ?_ ?_|refine N1 (con50m ?_ ?_ ?_ ?_ ?_ ?_ ?_ hne) ?_ ?_|refine P0 (con86 ?_ ?_ ?_ ?_ ?_ ?_ ?_) ?_ ?_ ?_|refine I2 mix x87 lf87 ?_ ?_ ?_ ?_ ?_|refine IA ?_ ?_ ?_|refine I3 mix x88 lf88 ?_ ?_ ?_ ?_ ?_|refine I3 mix x183 lf183 ?_ ?_ ?_ ?_ ?_|refine inr_fin ?_ ?_ ?_ ?_|refine P0 (con137 ?_) ?_ ?_ ?_|refine ACV.of (con137 ?_) ?_ ?_ ?_|refine ACK.of (con137 ?_) ?_ ?_|simp -implicitDefEqProofs only [F27,qA,ld_0,ld_pv,st_0,splice,doEqs,qU,List.reduceReplicate,Nat.reduceAdd,Nat.reduceSub,Nat.reduceLeDiff,Nat.reduceEqDiff,Nat.reduceMul,reduceIte,reduceCtorEq,qI,Nat.reduceLT,Nat.reduceBEq,F177,F178,up_s,Int.toNat_natCast,encT,doLkp,mfind,keyEq,AV.isInt,doMupd,Blk.inN,Blk.nms,List.flatMap_cons,List.flatMap_nil,encX,encV,encW,hpc,hI,Int.reduceToNat,Nat.mul_one,tell_len,wake_len,Int.reduceLE,Int.reduceLT,Int.reduceEq,Int.reduceNe,Int.toNat_zero,Int.toNat_one,Int.le_refl,set_set,getD_set_same,F88,F183,F87, *]
  all_goals first
    | omega
    | (constructor <;> omega)
    | exact Wk.refl _
    | (simp only [gIs,Bool.and_eq_true] at hI; with_reducible exact hI.1.1)
    | (refine Wk.of_eq ?_
       have htr:=tries_of hchk hge hlt
       try simp only [decide_eq_true_eq,decide_eq_false_iff_not,Bool.not_eq_true] at *
       unfold gEnter
       try simp only [me] at *
       have hw:=wrap64_tries htr
       clear hchk hI hside hruns htr
       try simp only [*,reduceIte,if_true,if_false,Bool.false_eq_true,and_true,true_and,and_false,false_and,and_self,not_true_eq_false,not_false_eq_true,ne_eq,Int.reduceEq,Int.reduceNe]
       try rw [List.take_of_length_le (by simp [tell_len,wake_len])]
       simp only [encZ,encX,encV,encC,withWord,withSlots,withRecvs,withFull,withEmpty,rOn,rAt,rEnds,rTell,setPc,setReg,setSeen,setGot,put1,setTries,me,getD_set_same,set_set,List.length_set,tf_cfg,tf_word,tf_slots,tf_sends,tf_recvs,tf_full,tf_empty,tf_now,tw_cfg,tw_word,tw_slots,tw_sends,tw_recvs,tw_full,tw_empty,tw_now,tw_log,thr_pc hpc, *]
       done)
    | trace_state

end Go.Sak
