/- Part S83 of the proofs about the program: K100, K101, K102, K103. Conditions: none. -/
import Derived.Test.YtccdhjhffebpoaaGreatS16
import Derived.Test.YtccdhjhffebpoaaGreatS04
import Derived.Test.YtccdhjhffebpoaaGreatProg
import Derived.KernelRfl
import Derived.Test.YtccdhjhffebpoaaGreatS13
import Derived.Test.YtccdhjhffebpoaaGreatS40
namespace Go.Sak
open Go Go.RowKit Go.Proofs
set_option linter.unusedVariables false
set_option linter.unusedSimpArgs false
set_option maxRecDepth 10000
set_option maxHeartbeats 8000000
theorem place_ref {p room:Int} (h1:0≤p) (h2:1≤room) (hp:p≤9223372036854775807):posPlace p room=IntKind.wrap .i64 (p - IntKind.wrap .i64 (IntKind.wrap .i64 (p.tdiv room) * room)):=by
  have h3:=Int.tmod_add_mul_tdiv p room
  have h4:=Int.tmod_nonneg room h1
  have h5:=Int.tmod_lt_of_pos p (show 0<room by omega)
  have h6:0≤p.tdiv room:=Int.tdiv_nonneg h1 (by omega)
  have h7:p.tdiv room≤p:=Int.tdiv_le_self _ h1
  have h8:p.tdiv room * room=p - p.tmod room:=by rw [Int.mul_comm]; omega
  have h9:p.tmod room≤p:=by
    have:=Int.mul_nonneg h6 (show 0≤room by omega)
    omega
  have e1:IntKind.wrap .i64 (p.tdiv room)=p.tdiv room:=wrap64 (by omega) (by omega)
  have e2:IntKind.wrap .i64 (p.tdiv room * room)=p.tdiv room * room:=wrap64 (by omega) (by omega)
  have e3:IntKind.wrap .i64 (p - p.tdiv room * room)=p - p.tdiv room * room:=wrap64 (by omega) (by omega)
  rw [e1,e2,e3,h8]
  unfold posPlace posIs
  rw [if_pos (by simp; omega)]
  omega
def F242:AFn:=⟨39,(.seq (.reg [o1 2 (.box 25 0),o1 4 (.mv (.const (.bool false)))]) (.seq (.reg [o1 5 (.faddr 0 2),o1 6 (.ld 1 false 5),o1 7 (.bin .geq 6 (ci 0)),o1 8 (.mv 7),o3 9 (.faddr 1 2) 8,o3 10 (.ld 1 false 9) 8,o3 11 (.faddr 0 2) 8,o3 12 (.ld 1 false 11) 8,o3 13 (.bin .geq 10 12) 8,o1 14 (.pick 8 13 (.const (.bool false))),o1 15 (.mv 14),o3 16 (.faddr 1 2) 15,o3 17 (.ld 1 false 16) 15,o3 18 (.bin .leq 17 (ci 1099511627776)) 15,o1 19 (.pick 15 18 (.const (.bool false))),o1 20 (.mv 19),o3 21 (.faddr 1 2) 20,o3 22 (.ld 1 false 21) 20,o3 23 (.faddr 0 2) 20,o3 24 (.ld 1 false 23) 20,o3 25 (.bin .sub 22 24) 20,o3 26 (.mv 1) 20,o3 27 (.bin .leq 25 26) 20,o1 28 (.pick 20 27 (.const (.bool false))),o1 29 (.mv 28),o3 30 (.faddr 2 2) 29,o3 31 (.ld 1 false 30) 29,o3 32 (.bin .geq 31 (ci 0)) 29,o1 33 (.pick 29 32 (.const (.bool false))),o1 34 (.mv 33),o3 35 (.faddr 2 2) 34,o3 36 (.ld 1 false 35) 34,o3 37 (.bin .leq 36 (ci 2)) 34,o1 38 (.pick 34 37 (.const (.bool false))),o1 4 (.mv 38)]) .ret)),[(4,none)]⟩
theorem x242:xf Tryz.prog 242=some F242:=by kernel_rfl
theorem con242 {w_h w_t:Int} {w_m room:Int}  : Con Tryz.prog 242 [.agg [.int .i64 w_h,.int .i64 w_t,.int .i64 w_m],.int .i64 room] ((.bool (posCheck (Word.mk w_h w_t w_m) room)),[],[]):=by
  refine mcb_of_vc mix x242 (by simp [F242]) fun hw _=>?_
  simp only [wfs,AV.wf,inR_i64] at hw
  repeat' with_reducible first|refine gTn_of (fun h=>?_) (fun h=>?_)|refine gT_of (fun h=>?_) (fun h=>?_)|refine caseTn_of (fun h=>?_) (fun h=>?_)|refine caseT_of (fun h=>?_) (fun h=>?_)|refine fin_pure ?_ ?_ ?_ ?_|refine kv_ifn ?_ ?_|refine kv_if ?_ ?_|refine k_if ?_ ?_|simp -implicitDefEqProofs only [F242,qA,doLd,doSt,splice,doEqs,qU,List.reduceReplicate,Nat.reduceAdd,Nat.reduceSub,Nat.reduceLeDiff,Nat.reduceEqDiff,Nat.reduceMul,reduceIte,reduceCtorEq, *]
  all_goals first
    | (simp; done)
    | exact idxF_any
    | exact idxF_any.symm
    | grind [inR_i64,wrap64,maxLen_eq,posCheck,posLen,within]

def F194:AFn:=⟨18,(.seq (.reg [o1 4 (.mv (ci 0))]) (.seq (.seq (.reg [o1 5 (.mv 0),o1 6 (.bin .lss 5 (ci 0)),o1 7 (.mv 6),o4 8 (.mv 1) 7,o4 9 (.bin .lss 8 (ci 1)) 7,o1 10 (.pick 7 (.const (.bool true)) 9)]) (.cond 10 (.seq (.reg [o1 4 (.mv (ci 0))]) .ret) .skip)) (.seq (.reg [o1 11 (.mv 0),o1 12 (.mv 0),o1 13 (.mv 1),o1 14 (.bin .quo 12 13),o1 15 (.mv 1),o1 16 (.bin .mul 14 15),o1 17 (.bin .sub 11 16),o1 4 (.mv 17)]) .ret))),[(4,none)]⟩
theorem x194:xf Tryz.prog 194=some F194:=by kernel_rfl
theorem con194 {p room:Int}:Con Tryz.prog 194 [.int .i64 p,.int .i64 room] (.int .i64 (posPlace p room),[],[]):=by
  refine mcb_of_vc mix x194 (by simp [F194]) fun hw _=>?_
  simp only [wfs,AV.wf,inR_i64] at hw
  repeat' with_reducible first|refine gTn_of (fun h=>?_) (fun h=>?_)|refine gT_of (fun h=>?_) (fun h=>?_)|refine caseTn_of (fun h=>?_) (fun h=>?_)|refine caseT_of (fun h=>?_) (fun h=>?_)|refine fin_pure ?_ ?_ ?_ ?_|refine kv_ifn ?_ ?_|refine kv_if ?_ ?_|refine k_if ?_ ?_|simp -implicitDefEqProofs only [F194,qA,doLd,doSt,splice,doEqs,qU,List.reduceReplicate,Nat.reduceAdd,Nat.reduceSub,Nat.reduceLeDiff,Nat.reduceEqDiff,Nat.reduceMul,reduceIte,reduceCtorEq, *]
  all_goals first
    | (simp; done)
    | (simp only [cond_true,cond_false,decide_eq_true_eq,decide_eq_false_iff_not] at *
       first
       | omega
       | exact place_ref (by omega) (by omega) (by omega)
       | (unfold posPlace posIs; rw [if_neg (by simp; omega)]; done))
    | trace_state

def F245:AFn:=⟨74,(.seq (.reg [o1 1 (.box 23 0),o1 2 (.mv (ci 0))]) (.seq (.seq (.reg [o1 3 (.faddr 0 1),o1 4 (.ld 1 false 3),o1 5 (.bin .lss 4 (ci 1)),o1 6 (.mv 5),o4 7 (.faddr 0 1) 6,o4 8 (.ld 1 false 7) 6,o4 9 (.bin .gtr 8 (ci 6)) 6,o1 10 (.pick 6 (.const (.bool true)) 9),o1 11 (.mv 10),o4 12 (.faddr 1 1) 11,o4 13 (.ld 1 false 12) 11,o4 14 (.bin .lss 13 (ci 1)) 11,o1 15 (.pick 11 (.const (.bool true)) 14),o1 16 (.mv 15),o4 17 (.faddr 1 1) 16,o4 18 (.ld 1 false 17) 16,o4 19 (.bin .gtr 18 (ci 16)) 16,o1 20 (.pick 16 (.const (.bool true)) 19),o1 21 (.mv 20),o4 22 (.faddr 2 1) 21,o4 23 (.ld 1 false 22) 21,o4 24 (.bin .lss 23 (ci 0)) 21,o1 25 (.pick 21 (.const (.bool true)) 24),o1 26 (.mv 25),o4 27 (.faddr 2 1) 26,o4 28 (.ld 1 false 27) 26,o4 29 (.bin .gtr 28 (ci 2)) 26,o1 30 (.pick 26 (.const (.bool true)) 29),o1 31 (.mv 30),o4 32 (.faddr 3 1) 31,o4 33 (.ld 1 false 32) 31,o4 34 (.bin .lss 33 (ci 0)) 31,o1 35 (.pick 31 (.const (.bool true)) 34),o1 36 (.mv 35),o4 37 (.faddr 3 1) 36,o4 38 (.ld 1 false 37) 36,o4 39 (.bin .gtr 38 (ci 3)) 36,o1 40 (.pick 36 (.const (.bool true)) 39)]) (.cond 40 (.seq (.reg [o1 2 (.mv (ci 20))]) .ret) .skip)) (.seq (.seq (.reg [o1 41 (.faddr 4 1),o1 42 (.ld 1 false 41),o1 43 (.bin .lss 42 (ci 0)),o1 44 (.mv 43),o4 45 (.faddr 4 1) 44,o4 46 (.ld 1 false 45) 44,o4 47 (.bin .gtr 46 (ci 8)) 44,o1 48 (.pick 44 (.const (.bool true)) 47),o1 49 (.mv 48),o4 50 (.faddr 5 1) 49,o4 51 (.ld 1 false 50) 49,o4 52 (.bin .lss 51 (ci 0)) 49,o1 53 (.pick 49 (.const (.bool true)) 52),o1 54 (.mv 53),o4 55 (.faddr 5 1) 54,o4 56 (.ld 1 false 55) 54,o4 57 (.bin .gtr 56 (ci 8)) 54,o1 58 (.pick 54 (.const (.bool true)) 57),o1 59 (.mv 58),o4 60 (.faddr 3 1) 59,o4 61 (.ld 1 false 60) 59,o4 62 (.bin .neq 61 (ci 2)) 59,o4 63 (.mv 62) 59,o3 64 (.faddr 4 1) 63,o3 65 (.ld 1 false 64) 63,o3 66 (.bin .neq 65 (ci 0)) 63,o3 67 (.mv 66) 63,o4 68 (.faddr 5 1) 67,o4 69 (.ld 1 false 68) 67,o4 70 (.bin .neq 69 (ci 0)) 67,o3 71 (.pick 67 (.const (.bool true)) 70) 63,o4 72 (.pick 63 71 (.const (.bool false))) 59,o1 73 (.pick 59 (.const (.bool true)) 72)]) (.cond 73 (.seq (.reg [o1 2 (.mv (ci 20))]) .ret) .skip)) (.seq (.reg [o1 2 (.mv (ci 0))]) .ret)))),[(2,none)]⟩
theorem x245:xf Tryz.prog 245=some F245:=by kernel_rfl
theorem con245 {c_lg c_th:Int} {c_pol c_wt:Int} {c_spin c_yld:Int} {c_single:Bool}  : Con Tryz.prog 245 [.agg [.int .i64 c_lg,.int .i64 c_th,.int .i64 c_pol,.int .i64 c_wt,.int .i64 c_spin,.int .i64 c_yld,.bool c_single]] ((.int .i64 (confCheck (Config.mk c_lg c_th c_pol c_wt c_spin c_yld c_single))),[],[]):=by
  refine mcb_of_vc mix x245 (by simp [F245]) fun hw _=>?_
  simp only [wfs,AV.wf,inR_i64] at hw
  repeat' with_reducible first|refine gTn_of (fun h=>?_) (fun h=>?_)|refine gT_of (fun h=>?_) (fun h=>?_)|refine caseTn_of (fun h=>?_) (fun h=>?_)|refine caseT_of (fun h=>?_) (fun h=>?_)|refine fin_pure ?_ ?_ ?_ ?_|refine kv_ifn ?_ ?_|refine kv_if ?_ ?_|refine k_if ?_ ?_|simp -implicitDefEqProofs only [F245,qA,doLd,doSt,splice,doEqs,qU,List.reduceReplicate,Nat.reduceAdd,Nat.reduceSub,Nat.reduceLeDiff,Nat.reduceEqDiff,Nat.reduceMul,reduceIte,reduceCtorEq, *]
  all_goals first
    | (simp; done)
    | exact idxF_any
    | exact idxF_any.symm
    | grind [inR_i64,wrap64,maxLen_eq,confCheck,confOk,confTries,within]

def F136:AFn:=⟨12,(.seq (.reg [o1 2 (.mv (ci 0))]) (.seq (.seq (.reg [o1 3 (.mv 0),o1 4 (.bin .lss 3 (ci 1)),o1 5 (.mv 4),o4 6 (.mv 0) 5,o4 7 (.bin .gtr 6 (ci 8)) 5,o1 8 (.pick 5 (.const (.bool true)) 7)]) (.cond 8 (.seq (.reg [o1 2 (.mv (ci 0))]) .ret) .skip)) (.seq (.reg [o1 9 (.mv 0),o1 10 (.bin .add 9 (ci 2)),o1 11 (.bin .quo 10 (ci 3)),o1 2 (.mv 11)]) .ret))),[(2,none)]⟩
theorem x136:xf Tryz.prog 136=some F136:=by kernel_rfl
theorem con136 {k:Int}  : Con Tryz.prog 136 [.int .i64 k] ((.int .i64 (opSide k)),[],[]):=by
  refine mcb_of_vc mix x136 (by simp [F136]) fun hw _=>?_
  simp only [wfs,AV.wf,inR_i64] at hw
  repeat' with_reducible first|refine gTn_of (fun h=>?_) (fun h=>?_)|refine gT_of (fun h=>?_) (fun h=>?_)|refine caseTn_of (fun h=>?_) (fun h=>?_)|refine caseT_of (fun h=>?_) (fun h=>?_)|refine fin_pure ?_ ?_ ?_ ?_|refine kv_ifn ?_ ?_|refine kv_if ?_ ?_|refine k_if ?_ ?_|simp -implicitDefEqProofs only [F136,qA,doLd,doSt,splice,doEqs,qU,List.reduceReplicate,Nat.reduceAdd,Nat.reduceSub,Nat.reduceLeDiff,Nat.reduceEqDiff,Nat.reduceMul,reduceIte,reduceCtorEq, *]
  all_goals first
    | (simp; done)
    | exact idxF_any
    | exact idxF_any.symm
    | grind [inR_i64,wrap64,maxLen_eq,opSide]

def F261:AFn:=⟨9,(.seq (.reg [o1 2 (.mv (.const (.bool false)))]) (.seq (.reg [o1 3 (.mv 0),o1 4 (.bin .eql 3 (ci 3)),o1 5 (.mv 4),o4 6 (.mv 0) 5,o4 7 (.bin .eql 6 (ci 6)) 5,o1 8 (.pick 5 (.const (.bool true)) 7),o1 2 (.mv 8)]) .ret)),[(2,none)]⟩
theorem x261:xf Tryz.prog 261=some F261:=by kernel_rfl
theorem con261 {k:Int}  : Con Tryz.prog 261 [.int .i64 k] ((.bool (opTimed k)),[],[]):=by
  refine mcb_of_vc mix x261 (by simp [F261]) fun hw _=>?_
  simp only [wfs,AV.wf,inR_i64] at hw
  repeat' with_reducible first|refine gTn_of (fun h=>?_) (fun h=>?_)|refine gT_of (fun h=>?_) (fun h=>?_)|refine caseTn_of (fun h=>?_) (fun h=>?_)|refine caseT_of (fun h=>?_) (fun h=>?_)|refine fin_pure ?_ ?_ ?_ ?_|refine kv_ifn ?_ ?_|refine kv_if ?_ ?_|refine k_if ?_ ?_|simp -implicitDefEqProofs only [F261,qA,doLd,doSt,splice,doEqs,qU,List.reduceReplicate,Nat.reduceAdd,Nat.reduceSub,Nat.reduceLeDiff,Nat.reduceEqDiff,Nat.reduceMul,reduceIte,reduceCtorEq, *]
  all_goals first
    | (simp; done)
    | exact idxF_any
    | exact idxF_any.symm
    | grind [inR_i64,wrap64,maxLen_eq,opTimed]

def F255:AFn:=⟨132,(.seq (.reg [o1 1 (.box 48 0),o1 2 (.mv (.const (.bool false)))]) (.seq (.seq (.reg [o1 4 (.faddr 0 1),o1 5 (.ld 1 false 4),o1 6 (.bin .lss 5 (ci 0)),o1 7 (.mv 6),o4 8 (.faddr 0 1) 7,o4 9 (.ld 1 false 8) 7,o4 10 (.bin .gtr 9 (ci 2)) 7,o1 11 (.pick 7 (.const (.bool true)) 10),o1 12 (.mv 11),o4 13 (.faddr 1 1) 12,o4 14 (.ld 1 false 13) 12,o4 15 (.bin .lss 14 (ci 0)) 12,o1 16 (.pick 12 (.const (.bool true)) 15),o1 17 (.mv 16),o4 18 (.faddr 1 1) 17,o4 19 (.ld 1 false 18) 17,o4 20 (.bin .gtr 19 (ci 8)) 17,o1 21 (.pick 17 (.const (.bool true)) 20),o1 22 (.mv 21),o4 23 (.faddr 1 1) 22,o4 24 (.ld 1 false 23) 22,o4 25 (.bin .eql 24 (ci 0)) 22,o4 26 (.mv 25) 22,o3 27 (.faddr 0 1) 26,o3 28 (.ld 1 false 27) 26,o3 29 (.bin .neq 28 (ci 0)) 26,o4 30 (.pick 26 29 (.const (.bool false))) 22,o1 31 (.pick 22 (.const (.bool true)) 30)]) (.cond 31 (.seq (.reg [o1 2 (.mv (.const (.bool false)))]) .ret) .skip)) (.seq (.seq (.reg [o1 32 (.faddr 3 1),o1 33 (.ld 1 false 32),o1 34 (.bin .lss 33 (ci 0)),o1 35 (.mv 34),o4 36 (.faddr 3 1) 35,o4 37 (.ld 1 false 36) 35,o4 38 (.bin .gtr 37 (ci 1099511627776)) 35,o1 39 (.pick 35 (.const (.bool true)) 38),o1 40 (.mv 39),o4 41 (.faddr 4 1) 40,o4 42 (.ld 1 false 41) 40,o4 43 (.bin .lss 42 (ci 0)) 40,o1 44 (.pick 40 (.const (.bool true)) 43),o1 45 (.mv 44),o4 46 (.faddr 4 1) 45,o4 47 (.ld 1 false 46) 45,o4 48 (.bin .gtr 47 (ci 11)) 45,o1 49 (.pick 45 (.const (.bool true)) 48),o1 50 (.mv 49),o4 51 (.faddr 7 1) 50,o4 52 (.ld 1 false 51) 50,o4 53 (.bin .lss 52 (ci 0)) 50,o1 54 (.pick 50 (.const (.bool true)) 53),o1 55 (.mv 54),o4 56 (.faddr 7 1) 55,o4 57 (.ld 1 false 56) 55,o4 58 (.bin .gtr 57 (ci 1099511627776)) 55,o1 59 (.pick 55 (.const (.bool true)) 58),o1 60 (.mv 59),o4 61 (.faddr 5 1) 60,o4 62 (.ld 1 false 61) 60,o4 63 (.bin .lss 62 (ci 0)) 60,o1 64 (.pick 60 (.const (.bool true)) 63),o1 65 (.mv 64),o4 66 (.faddr 5 1) 65,o4 67 (.ld 1 false 66) 65,o4 68 (.bin .gtr 67 (ci 1099511627776)) 65,o1 69 (.pick 65 (.const (.bool true)) 68),o1 70 (.mv 69),o4 71 (.faddr 6 1) 70,o4 72 (.ld 1 false 71) 70,o4 73 (.bin .lss 72 (ci (-1))) 70,o1 74 (.pick 70 (.const (.bool true)) 73),o1 75 (.mv 74),o4 76 (.faddr 6 1) 75,o4 77 (.ld 1 false 76) 75,o4 78 (.bin .gtr 77 (ci 1099511627776)) 75,o1 79 (.pick 75 (.const (.bool true)) 78),o1 80 (.mv 79),o4 81 (.faddr 9 1) 80,o4 82 (.ld 1 false 81) 80,o4 83 (.bin .lss 82 (ci 0)) 80,o1 84 (.pick 80 (.const (.bool true)) 83),o1 85 (.mv 84),o4 86 (.faddr 9 1) 85,o4 87 (.ld 1 false 86) 85,o4 88 (.bin .gtr 87 (ci 7)) 85,o1 89 (.pick 85 (.const (.bool true)) 88)]) (.cond 89 (.seq (.reg [o1 2 (.mv (.const (.bool false)))]) .ret) .skip)) (.seq (.reg [o1 90 (.faddr 1 1),o1 91 (.ld 1 false 90),o1 92 (.call 261 [91]),o1 3 (.mv 92)]) (.seq (.seq (.reg [o1 93 (.mv 3),o1 94 (.not 93),o1 95 (.mv 94),o3 96 (.faddr 3 1) 95,o3 97 (.ld 1 false 96) 95,o3 98 (.bin .neq 97 (ci 0)) 95,o3 99 (.mv 98) 95,o4 100 (.faddr 8 1) 99,o4 101 (.ld 1 false 100) 99,o3 102 (.pick 99 (.const (.bool true)) 101) 95,o1 103 (.pick 95 102 (.const (.bool false)))]) (.cond 103 (.seq (.reg [o1 2 (.mv (.const (.bool false)))]) .ret) .skip)) (.seq (.reg [o1 104 (.faddr 0 1),o1 105 (.ld 1 false 104),o1 106 (.bin .neq 105 (ci 0)),o1 107 (.mv 106),o4 108 (.faddr 4 1) 107,o4 109 (.ld 1 false 108) 107,o4 110 (.bin .eql 109 (ci 0)) 107,o4 111 (.mv 110) 107,o3 112 (.faddr 5 1) 111,o3 113 (.ld 1 false 112) 111,o3 114 (.bin .eql 113 (ci 0)) 111,o4 115 (.pick 111 114 (.const (.bool false))) 107,o4 116 (.mv 115) 107,o3 117 (.faddr 6 1) 116,o3 118 (.ld 1 false 117) 116,o3 119 (.bin .eql 118 (ci 0)) 116,o4 120 (.pick 116 119 (.const (.bool false))) 107,o4 121 (.mv 120) 107,o3 122 (.faddr 7 1) 121,o3 123 (.ld 1 false 122) 121,o3 124 (.bin .eql 123 (ci 0)) 121,o4 125 (.pick 121 124 (.const (.bool false))) 107,o4 126 (.mv 125) 107,o3 127 (.faddr 8 1) 126,o3 128 (.ld 1 false 127) 126,o3 129 (.not 128) 126,o4 130 (.pick 126 129 (.const (.bool false))) 107,o1 131 (.pick 107 (.const (.bool true)) 130),o1 2 (.mv 131)]) .ret)))))),[(2,none)]⟩
theorem x255:xf Tryz.prog 255=some F255:=by kernel_rfl
theorem con255 {t_st t_kind:Int} {t_val t_untl:Int} {t_pc t_reg:Int} {t_seen t_tries:Int} {t_late:Bool} {t_res t_got:Int}  : Con Tryz.prog 255 [.agg [.int .i64 t_st,.int .i64 t_kind,.int .i64 t_val,.int .i64 t_untl,.int .i64 t_pc,.int .i64 t_reg,.int .i64 t_seen,.int .i64 t_tries,.bool t_late,.int .i64 t_res,.int .i64 t_got]] ((.bool (tCheck (Thread.mk t_st t_kind t_val t_untl t_pc t_reg t_seen t_tries t_late t_res t_got))),[],[]):=by
  refine mcb_of_vc mix x255 (by simp [F255]) fun hw _=>?_
  simp only [wfs,AV.wf,inR_i64] at hw
  repeat' with_reducible first|refine gTn_of (fun h=>?_) (fun h=>?_)|refine gT_of (fun h=>?_) (fun h=>?_)|refine caseTn_of (fun h=>?_) (fun h=>?_)|refine caseT_of (fun h=>?_) (fun h=>?_)|refine fin_pure ?_ ?_ ?_ ?_|refine kv_ifn ?_ ?_|refine kv_if ?_ ?_|refine k_if ?_ ?_|refine P0 (con261) ?_ ?_ ?_|refine ACV.of (con261) ?_ ?_ ?_|refine ACK.of (con261) ?_ ?_|simp -implicitDefEqProofs only [F255,qA,doLd,doSt,splice,doEqs,qU,List.reduceReplicate,Nat.reduceAdd,Nat.reduceSub,Nat.reduceLeDiff,Nat.reduceEqDiff,Nat.reduceMul,reduceIte,reduceCtorEq,encT, *]
  all_goals first
    | (simp; done)
    | exact idxF_any
    | exact idxF_any.symm
    | grind [inR_i64,wrap64,maxLen_eq,tCheck,tBare,tKind,tTime,tPlace,within,opCheck,opSide,opTimed,Thread.mk.injEq]

def F173:AFn:=⟨9,(.seq (.reg [o1 1 (.box 48 0),o1 2 (.mv (ci 0))]) (.seq (.seq (.reg [o1 3 (.faddr 0 1),o1 4 (.ld 1 false 3),o1 5 (.bin .eql 4 (ci 0))]) (.cond 5 (.seq (.reg [o1 2 (.mv (ci 121))]) .ret) .skip)) (.seq (.seq (.reg [o1 6 (.faddr 0 1),o1 7 (.ld 1 false 6),o1 8 (.bin .eql 7 (ci 2))]) (.cond 8 (.seq (.reg [o1 2 (.mv (ci 122))]) .ret) .skip)) (.seq (.reg [o1 2 (.mv (ci 0))]) .ret)))),[(2,none)]⟩
theorem x173:xf Tryz.prog 173=some F173:=by kernel_rfl
theorem con173 {t_st t_kind:Int} {t_val t_untl:Int} {t_pc t_reg:Int} {t_seen t_tries:Int} {t_late:Bool} {t_res t_got:Int}  : Con Tryz.prog 173 [.agg [.int .i64 t_st,.int .i64 t_kind,.int .i64 t_val,.int .i64 t_untl,.int .i64 t_pc,.int .i64 t_reg,.int .i64 t_seen,.int .i64 t_tries,.bool t_late,.int .i64 t_res,.int .i64 t_got]] ((.int .i64 (tRuns (Thread.mk t_st t_kind t_val t_untl t_pc t_reg t_seen t_tries t_late t_res t_got))),[],[]):=by
  refine mcb_of_vc mix x173 (by simp [F173]) fun hw _=>?_
  simp only [wfs,AV.wf,inR_i64] at hw
  repeat' with_reducible first|refine gTn_of (fun h=>?_) (fun h=>?_)|refine gT_of (fun h=>?_) (fun h=>?_)|refine caseTn_of (fun h=>?_) (fun h=>?_)|refine caseT_of (fun h=>?_) (fun h=>?_)|refine fin_pure ?_ ?_ ?_ ?_|refine kv_ifn ?_ ?_|refine kv_if ?_ ?_|refine k_if ?_ ?_|simp -implicitDefEqProofs only [F173,qA,doLd,doSt,splice,doEqs,qU,List.reduceReplicate,Nat.reduceAdd,Nat.reduceSub,Nat.reduceLeDiff,Nat.reduceEqDiff,Nat.reduceMul,reduceIte,reduceCtorEq, *]
  all_goals first
    | (simp; done)
    | exact idxF_any
    | exact idxF_any.symm
    | grind [inR_i64,wrap64,maxLen_eq,tRuns]

def F172:AFn:=⟨18,(.seq (.reg [o1 2 (.box 48 0),o1 4 (.alloc 48 [(.int .i64 0),(.int .i64 0),(.int .i64 0),(.int .i64 0),(.int .i64 0),(.int .i64 0),(.int .i64 0),(.int .i64 0),(.bool false),(.int .i64 0),(.int .i64 0)]),o1 5 (.mv (ci 0))]) (.seq (.reg [o1 7 (.ld 11 true 2),o1 8 (.call 173 [7]),o1 6 (.mv 8)]) (.seq (.seq (.reg [o1 9 (.mv 6),o1 10 (.bin .neq 9 (ci 0))]) (.cond 10 (.seq (.reg [o1 11 (.ld 11 true 2),o1 12 (.mv 6),o2 (.st 11 4 11),o1 5 (.mv 12)]) .ret) .skip)) (.seq (.reg [o1 13 (.faddr 0 2),o2 (.st 1 13 (ci 2))]) (.seq (.reg [o1 14 (.mv 1),o1 15 (.faddr 4 2),o2 (.st 1 15 14)]) (.seq (.reg [o1 16 (.faddr 7 2),o2 (.st 1 16 (ci 0))]) (.seq (.reg [o1 17 (.ld 11 true 2),o2 (.st 11 4 17),o1 5 (.mv (ci 0))]) .ret))))))),[(4,some (11,true)),(5,none)]⟩
theorem x172:xf Tryz.prog 172=some F172:=by kernel_rfl
theorem con172 {t_st t_kind:Int} {t_val t_untl:Int} {t_pc t_reg:Int} {t_seen t_tries:Int} {t_late:Bool} {t_res t_got pc:Int}  : Con Tryz.prog 172 [.agg [.int .i64 t_st,.int .i64 t_kind,.int .i64 t_val,.int .i64 t_untl,.int .i64 t_pc,.int .i64 t_reg,.int .i64 t_seen,.int .i64 t_tries,.bool t_late,.int .i64 t_res,.int .i64 t_got],.int .i64 pc] ((.tup [.agg (encT ((tPark (Thread.mk t_st t_kind t_val t_untl t_pc t_reg t_seen t_tries t_late t_res t_got) pc).1)),.int .i64 ((tPark (Thread.mk t_st t_kind t_val t_untl t_pc t_reg t_seen t_tries t_late t_res t_got) pc).2)]),[],[]):=by
  refine mcb_of_vc mix x172 (by simp [F172]) fun hw _=>?_
  simp only [wfs,AV.wf,inR_i64] at hw
  repeat' with_reducible first|refine gTn_of (fun h=>?_) (fun h=>?_)|refine gT_of (fun h=>?_) (fun h=>?_)|refine caseTn_of (fun h=>?_) (fun h=>?_)|refine caseT_of (fun h=>?_) (fun h=>?_)|refine fin_pure ?_ ?_ ?_ ?_|refine kv_ifn ?_ ?_|refine kv_if ?_ ?_|refine k_if ?_ ?_|refine P0 (con173) ?_ ?_ ?_|refine ACV.of (con173) ?_ ?_ ?_|refine ACK.of (con173) ?_ ?_|simp -implicitDefEqProofs only [F172,qA,doLd,doSt,splice,doEqs,qU,List.reduceReplicate,Nat.reduceAdd,Nat.reduceSub,Nat.reduceLeDiff,Nat.reduceEqDiff,Nat.reduceMul,reduceIte,reduceCtorEq,encT, *]
  all_goals first
    | (simp; done)
    | exact idxF_any
    | exact idxF_any.symm
    | grind [inR_i64,wrap64,maxLen_eq,tPark]

def F170:AFn:=⟨9,(.seq (.reg [o1 1 (.box 48 0),o1 2 (.alloc 48 [(.int .i64 0),(.int .i64 0),(.int .i64 0),(.int .i64 0),(.int .i64 0),(.int .i64 0),(.int .i64 0),(.int .i64 0),(.bool false),(.int .i64 0),(.int .i64 0)])]) (.seq (.seq (.reg [o1 3 (.faddr 0 1),o1 4 (.ld 1 false 3),o1 5 (.bin .neq 4 (ci 2))]) (.cond 5 (.seq (.reg [o1 6 (.ld 11 true 1),o2 (.st 11 2 6)]) .ret) .skip)) (.seq (.reg [o1 7 (.faddr 0 1),o2 (.st 1 7 (ci 1))]) (.seq (.reg [o1 8 (.ld 11 true 1),o2 (.st 11 2 8)]) .ret)))),[(2,some (11,true))]⟩
theorem x170:xf Tryz.prog 170=some F170:=by kernel_rfl
theorem con170 {t_st t_kind:Int} {t_val t_untl:Int} {t_pc t_reg:Int} {t_seen t_tries:Int} {t_late:Bool} {t_res t_got:Int}  : Con Tryz.prog 170 [.agg [.int .i64 t_st,.int .i64 t_kind,.int .i64 t_val,.int .i64 t_untl,.int .i64 t_pc,.int .i64 t_reg,.int .i64 t_seen,.int .i64 t_tries,.bool t_late,.int .i64 t_res,.int .i64 t_got]] ((.agg (encT (tWake (Thread.mk t_st t_kind t_val t_untl t_pc t_reg t_seen t_tries t_late t_res t_got)))),[],[]):=by
  refine mcb_of_vc mix x170 (by simp [F170]) fun hw _=>?_
  simp only [wfs,AV.wf,inR_i64] at hw
  repeat' with_reducible first|refine gTn_of (fun h=>?_) (fun h=>?_)|refine gT_of (fun h=>?_) (fun h=>?_)|refine caseTn_of (fun h=>?_) (fun h=>?_)|refine caseT_of (fun h=>?_) (fun h=>?_)|refine fin_pure ?_ ?_ ?_ ?_|refine kv_ifn ?_ ?_|refine kv_if ?_ ?_|refine k_if ?_ ?_|simp -implicitDefEqProofs only [F170,qA,doLd,doSt,splice,doEqs,qU,List.reduceReplicate,Nat.reduceAdd,Nat.reduceSub,Nat.reduceLeDiff,Nat.reduceEqDiff,Nat.reduceMul,reduceIte,reduceCtorEq,encT, *]
  all_goals first
    | (simp; done)
    | exact idxF_any
    | exact idxF_any.symm
    | grind [inR_i64,wrap64,maxLen_eq,tWake]

def F82:AFn:=⟨18,(.seq (.reg [o1 1 (.box 48 0),o1 2 (.alloc 48 [(.int .i64 0),(.int .i64 0),(.int .i64 0),(.int .i64 0),(.int .i64 0),(.int .i64 0),(.int .i64 0),(.int .i64 0),(.bool false),(.int .i64 0),(.int .i64 0)]),o1 3 (.mv (ci 0))]) (.seq (.reg [o1 5 (.ld 11 true 1),o1 6 (.call 173 [5]),o1 4 (.mv 6)]) (.seq (.seq (.reg [o1 7 (.mv 4),o1 8 (.bin .neq 7 (ci 0))]) (.cond 8 (.seq (.reg [o1 9 (.ld 11 true 1),o1 10 (.mv 4),o2 (.st 11 2 9),o1 3 (.mv 10)]) .ret) .skip)) (.seq (.reg [o1 11 (.faddr 0 1),o2 (.st 1 11 (ci 0))]) (.seq (.reg [o1 12 (.faddr 4 1),o2 (.st 1 12 (ci 0))]) (.seq (.reg [o1 13 (.faddr 5 1),o2 (.st 1 13 (ci 0))]) (.seq (.reg [o1 14 (.faddr 6 1),o2 (.st 1 14 (ci 0))]) (.seq (.reg [o1 15 (.faddr 7 1),o2 (.st 1 15 (ci 0))]) (.seq (.reg [o1 16 (.faddr 8 1),o2 (.st 1 16 (.const (.bool false)))]) (.seq (.reg [o1 17 (.ld 11 true 1),o2 (.st 11 2 17),o1 3 (.mv (ci 0))]) .ret)))))))))),[(2,some (11,true)),(3,none)]⟩
theorem x82:xf Tryz.prog 82=some F82:=by kernel_rfl
theorem con82 {t_st t_kind:Int} {t_val t_untl:Int} {t_pc t_reg:Int} {t_seen t_tries:Int} {t_late:Bool} {t_res t_got:Int}  : Con Tryz.prog 82 [.agg [.int .i64 t_st,.int .i64 t_kind,.int .i64 t_val,.int .i64 t_untl,.int .i64 t_pc,.int .i64 t_reg,.int .i64 t_seen,.int .i64 t_tries,.bool t_late,.int .i64 t_res,.int .i64 t_got]] ((.tup [.agg (encT ((tDone (Thread.mk t_st t_kind t_val t_untl t_pc t_reg t_seen t_tries t_late t_res t_got)).1)),.int .i64 ((tDone (Thread.mk t_st t_kind t_val t_untl t_pc t_reg t_seen t_tries t_late t_res t_got)).2)]),[],[]):=by
  refine mcb_of_vc mix x82 (by simp [F82]) fun hw _=>?_
  simp only [wfs,AV.wf,inR_i64] at hw
  repeat' with_reducible first|refine gTn_of (fun h=>?_) (fun h=>?_)|refine gT_of (fun h=>?_) (fun h=>?_)|refine caseTn_of (fun h=>?_) (fun h=>?_)|refine caseT_of (fun h=>?_) (fun h=>?_)|refine fin_pure ?_ ?_ ?_ ?_|refine kv_ifn ?_ ?_|refine kv_if ?_ ?_|refine k_if ?_ ?_|refine P0 (con173) ?_ ?_ ?_|refine ACV.of (con173) ?_ ?_ ?_|refine ACK.of (con173) ?_ ?_|simp -implicitDefEqProofs only [F82,qA,doLd,doSt,splice,doEqs,qU,List.reduceReplicate,Nat.reduceAdd,Nat.reduceSub,Nat.reduceLeDiff,Nat.reduceEqDiff,Nat.reduceMul,reduceIte,reduceCtorEq,encT,tBare, *]
  all_goals first
    | (simp; done)
    | exact idxF_any
    | exact idxF_any.symm
    | grind [inR_i64,wrap64,maxLen_eq,tDone,tBare]

def F192:AFn:=⟨37,(.seq (.reg [o1 2 (.box 23 0),o1 4 (.mv (ci 0))]) (.seq (.seq (.reg [o1 5 (.ld 7 true 2),o1 6 (.call 245 [5]),o1 7 (.bin .neq 6 (ci 0)),o1 8 (.mv 7),o4 9 (.faddr 3 2) 8,o4 10 (.ld 1 false 9) 8,o4 11 (.bin .eql 10 (ci 0)) 8,o1 12 (.pick 8 (.const (.bool true)) 11)]) (.cond 12 (.seq (.reg [o1 4 (.mv (ci 0))]) .ret) .skip)) (.seq (.seq (.reg [o1 13 (.faddr 3 2),o1 14 (.ld 1 false 13),o1 15 (.bin .eql 14 (ci 1))]) (.cond 15 (.seq (.reg [o1 4 (.mv (ci 1))]) .ret) .skip)) (.seq (.seq (.reg [o1 16 (.faddr 3 2),o1 17 (.ld 1 false 16),o1 18 (.bin .eql 17 (ci 2)),o1 19 (.mv 18),o3 20 (.mv 1) 19,o3 21 (.faddr 4 2) 19,o3 22 (.ld 1 false 21) 19,o3 23 (.bin .lss 20 22) 19,o1 24 (.pick 19 23 (.const (.bool false)))]) (.cond 24 (.seq (.reg [o1 4 (.mv (ci 0))]) .ret) .skip)) (.seq (.seq (.reg [o1 25 (.faddr 3 2),o1 26 (.ld 1 false 25),o1 27 (.bin .eql 26 (ci 2)),o1 28 (.mv 27),o3 29 (.mv 1) 28,o3 30 (.faddr 4 2) 28,o3 31 (.ld 1 false 30) 28,o3 32 (.faddr 5 2) 28,o3 33 (.ld 1 false 32) 28,o3 34 (.bin .add 31 33) 28,o3 35 (.bin .lss 29 34) 28,o1 36 (.pick 28 35 (.const (.bool false)))]) (.cond 36 (.seq (.reg [o1 4 (.mv (ci 1))]) .ret) .skip)) (.seq (.reg [o1 4 (.mv (ci 2))]) .ret)))))),[(4,none)]⟩
theorem x192:xf Tryz.prog 192=some F192:=by kernel_rfl
theorem con192 {c_lg c_th:Int} {c_pol c_wt:Int} {c_spin c_yld:Int} {c_single:Bool} {n:Int} (hn:0≤n):Con Tryz.prog 192 [.agg [.int .i64 c_lg,.int .i64 c_th,.int .i64 c_pol,.int .i64 c_wt,.int .i64 c_spin,.int .i64 c_yld,.bool c_single],.int .i64 n] ((.int .i64 (waitNext (Config.mk c_lg c_th c_pol c_wt c_spin c_yld c_single) n)),[],[]):=by
  refine mcb_of_vc mix x192 (by simp [F192]) fun hw _=>?_
  simp only [wfs,AV.wf,inR_i64] at hw
  repeat' with_reducible first|refine gTn_of (fun h=>?_) (fun h=>?_)|refine gT_of (fun h=>?_) (fun h=>?_)|refine caseTn_of (fun h=>?_) (fun h=>?_)|refine caseT_of (fun h=>?_) (fun h=>?_)|refine fin_pure ?_ ?_ ?_ ?_|refine kv_ifn ?_ ?_|refine kv_if ?_ ?_|refine k_if ?_ ?_|refine P0 (con245) ?_ ?_ ?_|refine ACV.of (con245) ?_ ?_ ?_|refine ACK.of (con245) ?_ ?_|simp -implicitDefEqProofs only [F192,qA,doLd,doSt,splice,doEqs,qU,List.reduceReplicate,Nat.reduceAdd,Nat.reduceSub,Nat.reduceLeDiff,Nat.reduceEqDiff,Nat.reduceMul,reduceIte,reduceCtorEq, *]
  all_goals first
    | (simp; done)
    | exact idxF_any
    | exact idxF_any.symm
    | grind [inR_i64,wrap64,maxLen_eq,waitNext,confCheck,confOk,confTries,within]

def F175:AFn:=⟨48,(.seq (.reg [o1 3 (.box 25 0),o1 6 (.alloc 25 [(.int .i64 0),(.int .i64 0),(.int .i64 0)]),o1 7 (.mv (.const (.bool false)))]) (.seq (.reg [o1 9 (.ld 3 true 3),o1 10 (.mv 1),o1 11 (.call 242 [9,10]),o1 8 (.mv 11)]) (.seq (.seq (.reg [o1 12 (.mv 8),o1 13 (.not 12),o1 14 (.mv 13),o4 15 (.faddr 2 3) 14,o4 16 (.ld 1 false 15) 14,o4 17 (.bin .neq 16 (ci 0)) 14,o1 18 (.pick 14 (.const (.bool true)) 17),o1 19 (.mv 18),o4 20 (.faddr 0 3) 19,o4 21 (.ld 1 false 20) 19,o4 22 (.mv 2) 19,o4 23 (.bin .neq 21 22) 19,o1 24 (.pick 19 (.const (.bool true)) 23),o1 25 (.mv 24),o4 26 (.faddr 1 3) 25,o4 27 (.ld 1 false 26) 25,o4 28 (.faddr 0 3) 25,o4 29 (.ld 1 false 28) 25,o4 30 (.bin .eql 27 29) 25,o1 31 (.pick 25 (.const (.bool true)) 30),o1 32 (.mv 31),o4 33 (.faddr 1 3) 32,o4 34 (.ld 1 false 33) 32,o4 35 (.faddr 0 3) 32,o4 36 (.ld 1 false 35) 32,o4 37 (.bin .sub 34 36) 32,o4 38 (.mv 1) 32,o4 39 (.bin .lss 37 38) 32,o1 40 (.pick 32 (.const (.bool true)) 39)]) (.cond 40 (.seq (.reg [o1 41 (.ld 3 true 3),o2 (.st 3 6 41),o1 7 (.mv (.const (.bool false)))]) .ret) .skip)) (.seq (.reg [o1 42 (.faddr 0 3),o1 43 (.ld 1 false 42),o1 44 (.bin .add 43 (ci 1)),o1 45 (.faddr 1 3),o1 46 (.ld 1 false 45),o1 47 (.build [(.int .i64 0),(.int .i64 0),(.int .i64 0)] [(0,1,44),(1,1,46)]),o2 (.st 3 6 47),o1 7 (.mv (.const (.bool true)))]) .ret)))),[(6,some (3,true)),(7,none)]⟩
theorem x175:xf Tryz.prog 175=some F175:=by kernel_rfl
theorem con175 {w_h w_t:Int} {w_m room head:Int}  : Con Tryz.prog 175 [.agg [.int .i64 w_h,.int .i64 w_t,.int .i64 w_m],.int .i64 room,.int .i64 head] ((.tup [.agg (encW ((wEvict (Word.mk w_h w_t w_m) room head).1)),.bool ((wEvict (Word.mk w_h w_t w_m) room head).2)]),[],[]):=by
  refine mcb_of_vc mix x175 (by simp [F175]) fun hw _=>?_
  simp only [wfs,AV.wf,inR_i64] at hw
  repeat' with_reducible first|refine gTn_of (fun h=>?_) (fun h=>?_)|refine gT_of (fun h=>?_) (fun h=>?_)|refine caseTn_of (fun h=>?_) (fun h=>?_)|refine caseT_of (fun h=>?_) (fun h=>?_)|refine fin_pure ?_ ?_ ?_ ?_|refine kv_ifn ?_ ?_|refine kv_if ?_ ?_|refine k_if ?_ ?_|refine P0 (con242) ?_ ?_ ?_|refine ACV.of (con242) ?_ ?_ ?_|refine ACK.of (con242) ?_ ?_|simp -implicitDefEqProofs only [F175,qA,doLd,doSt,splice,doEqs,qU,List.reduceReplicate,Nat.reduceAdd,Nat.reduceSub,Nat.reduceLeDiff,Nat.reduceEqDiff,Nat.reduceMul,reduceIte,reduceCtorEq,encW, *]
  all_goals first
    | (simp; done)
    | exact idxF_any
    | exact idxF_any.symm
    | grind [inR_i64,wrap64,maxLen_eq,wEvict,wHalted,posCheck,posFull,posLen,within]

def F169:AFn:=⟨8,(.seq (.reg [o1 2 (.mv (ci 0))]) (.seq (.seq (.reg [o1 3 (.mv 0),o1 4 (.bin .eql 3 (ci 1099511627776))]) (.cond 4 (.seq (.reg [o1 5 (.mv 0),o1 2 (.mv 5)]) .ret) .skip)) (.seq (.reg [o1 6 (.mv 0),o1 7 (.bin .add 6 (ci 1)),o1 2 (.mv 7)]) .ret))),[(2,none)]⟩
theorem x169:xf Tryz.prog 169=some F169:=by kernel_rfl
theorem con169 {n:Int}  : Con Tryz.prog 169 [.int .i64 n] ((.int .i64 ((if n=1099511627776 then n else IntKind.wrap .i64 (n+1)))),[],[]):=by
  refine mcb_of_vc mix x169 (by simp [F169]) fun hw _=>?_
  simp only [wfs,AV.wf,inR_i64] at hw
  repeat' with_reducible first|refine gTn_of (fun h=>?_) (fun h=>?_)|refine gT_of (fun h=>?_) (fun h=>?_)|refine caseTn_of (fun h=>?_) (fun h=>?_)|refine caseT_of (fun h=>?_) (fun h=>?_)|refine fin_pure ?_ ?_ ?_ ?_|refine kv_ifn ?_ ?_|refine kv_if ?_ ?_|refine k_if ?_ ?_|simp -implicitDefEqProofs only [F169,qA,doLd,doSt,splice,doEqs,qU,List.reduceReplicate,Nat.reduceAdd,Nat.reduceSub,Nat.reduceLeDiff,Nat.reduceEqDiff,Nat.reduceMul,reduceIte,reduceCtorEq, *]
  all_goals first
    | (simp; done)
    | exact idxF_any
    | exact idxF_any.symm
    | grind [inR_i64,wrap64,maxLen_eq]

def F167:AFn:=⟨46,(.seq (.reg [o1 2 (.box 25 0),o1 4 (.alloc 25 [(.int .i64 0),(.int .i64 0),(.int .i64 0)]),o1 5 (.mv (ci 0)),o1 6 (.mv (ci 0))]) (.seq (.reg [o1 8 (.ld 3 true 2),o1 9 (.mv 1),o1 10 (.call 242 [8,9]),o1 7 (.mv 10)]) (.seq (.seq (.reg [o1 11 (.mv 7),o1 12 (.not 11),o1 13 (.mv 12),o4 14 (.faddr 2 2) 13,o4 15 (.ld 1 false 14) 13,o4 16 (.bin .eql 15 (ci 2)) 13,o1 17 (.pick 13 (.const (.bool true)) 16)]) (.cond 17 (.seq (.reg [o1 18 (.ld 3 true 2),o2 (.st 3 4 18),o1 5 (.mv (ci 0)),o1 6 (.mv (ci 7))]) .ret) .skip)) (.seq (.seq (.reg [o1 19 (.faddr 2 2),o1 20 (.ld 1 false 19),o1 21 (.bin .eql 20 (ci 1))]) (.cond 21 (.seq (.reg [o1 22 (.ld 3 true 2),o2 (.st 3 4 22),o1 5 (.mv (ci 0)),o1 6 (.mv (ci 6))]) .ret) .skip)) (.seq (.seq (.reg [o1 23 (.faddr 1 2),o1 24 (.ld 1 false 23),o1 25 (.faddr 0 2),o1 26 (.ld 1 false 25),o1 27 (.bin .sub 24 26),o1 28 (.mv 1),o1 29 (.bin .geq 27 28),o1 30 (.mv 29),o4 31 (.faddr 1 2) 30,o4 32 (.ld 1 false 31) 30,o4 33 (.bin .eql 32 (ci 1099511627776)) 30,o1 34 (.pick 30 (.const (.bool true)) 33)]) (.cond 34 (.seq (.reg [o1 35 (.ld 3 true 2),o2 (.st 3 4 35),o1 5 (.mv (ci 0)),o1 6 (.mv (ci 2))]) .ret) .skip)) (.seq (.regT [o1 36 (.faddr 0 2),o1 37 (.ld 1 false 36),o1 38 (.faddr 1 2),o1 39 (.ld 1 false 38),o1 40 (.bin .add 39 (ci 1)),o1 41 (.faddr 2 2),o1 42 (.ld 1 false 41),o1 43 (.build [(.int .i64 0),(.int .i64 0),(.int .i64 0)] [(0,1,37),(1,1,40),(2,1,42)]),o1 44 (.faddr 1 2),o1 45 (.ld 1 false 44),o2 (.st 3 4 43),o1 5 (.mv 45),o1 6 (.mv (ci 1))] [(0,2),(1,2),(0,3),(1,3),(0,5),(1,5),(2,5),(3,5),(0,6),(1,6),(2,6),(3,6),(0,8),(1,8),(2,8),(3,8),(5,8),(6,8),(0,9),(1,9),(2,9),(3,9),(5,9),(6,9),(8,10),(9,10)]) .ret)))))),[(4,some (3,true)),(5,none),(6,none)]⟩
theorem x167:xf Tryz.prog 167=some F167:=by kernel_rfl
theorem con167 {w_h w_t:Int} {w_m room:Int}  : Con Tryz.prog 167 [.agg [.int .i64 w_h,.int .i64 w_t,.int .i64 w_m],.int .i64 room] ((.tup [.agg (encW ((wAccept (Word.mk w_h w_t w_m) room).1)),.int .i64 ((wAccept (Word.mk w_h w_t w_m) room).2.1),.int .i64 ((wAccept (Word.mk w_h w_t w_m) room).2.2)]),[],[]):=by
  refine mcb_of_vc mix x167 (by simp [F167]) fun hw _=>?_
  simp only [wfs,AV.wf,inR_i64] at hw
  repeat' with_reducible first|refine gTn_of (fun h=>?_) (fun h=>?_)|refine gT_of (fun h=>?_) (fun h=>?_)|refine caseTn_of (fun h=>?_) (fun h=>?_)|refine caseT_of (fun h=>?_) (fun h=>?_)|refine fin_pure ?_ ?_ ?_ ?_|refine kv_ifn ?_ ?_|refine kv_if ?_ ?_|refine k_if ?_ ?_|refine P0 (con242) ?_ ?_ ?_|refine ACV.of (con242) ?_ ?_ ?_|refine ACK.of (con242) ?_ ?_|simp -implicitDefEqProofs only [F167,qA,doLd,doSt,splice,doEqs,qU,List.reduceReplicate,Nat.reduceAdd,Nat.reduceSub,Nat.reduceLeDiff,Nat.reduceEqDiff,Nat.reduceMul,reduceIte,reduceCtorEq,encW,Nat.reduceBEq, *]
  all_goals first
    | (simp; done)
    | exact idxF_any
    | exact idxF_any.symm
    | grind [inR_i64,wrap64,maxLen_eq,wAccept,wHalted,posCheck,posFull,posLen,within]

def at5 (l:List Int) (id:Int):Int:=idxF (fun y=>decide (y=id)) l
theorem at5_eq {l:List Int} {id:Int}:at5 l id=idxF (fun y=>decide (id=y)) l:=by
  unfold at5; congr 1; funext y; exact decide_eq_decide.2 eq_comm
theorem idx_le {p:Int→Bool} {l:List Int}:-1≤idxF p l∧idxF p l<(l.length:Int)∨idxF p l=-1:=by
  unfold idxF
  split
  · rename_i i h
    obtain ⟨h1,_⟩:=List.findIdx?_eq_some_iff_getElem.1 h
    left; omega
  · right; rfl
def ck5 (l:List Int) (n:Nat):Prop:=∀ j,j<n→0≤l.getD j default∧l.getD j default≤15∧at5 l (l.getD j default)=j
theorem ck5_s {l:List Int} {i:Nat} (h:ck5 l i) (h1:0≤l.getD i default) (h2:l.getD i default≤15) (h3:at5 l (l.getD i default)=i):ck5 l (i+1):=fun j hj=>by
  rcases Nat.lt_or_eq_of_le (Nat.le_of_lt_succ hj) with h9 | h9
  · exact h j h9
  · subst h9; exact ⟨h1,h2,h3⟩
theorem ck5_t {l:List Int} (h:ck5 l l.length):lCheck l=true:=by
  rw [lCheck_iff]
  refine ⟨?_,fun x hx=>?_⟩
  · rw [List.nodup_iff_pairwise_ne,List.pairwise_iff_getElem]
    intro i j hi hj hij e
    have h1:=(h i hi).2.2
    have h2:=(h j hj).2.2
    simp only [List.getD_eq_getElem?_getD,List.getElem?_eq_getElem hi,List.getElem?_eq_getElem hj,Option.getD_some] at h1 h2
    rw [e] at h1
    rw [h1] at h2
    omega
  · obtain ⟨i,hi,rfl⟩:=List.getElem_of_mem hx
    have:=h i hi
    simp only [List.getD_eq_getElem?_getD,List.getElem?_eq_getElem hi,Option.getD_some] at this
    omega
theorem at5_self {l:List Int} (h:l.Nodup) {i:Nat} (hi:i<l.length):at5 l (l.getD i default)=i:=by
  unfold at5
  refine idxF_found (d:=default) hi (fun j hj=>?_) (by simp)
  have hjl:j<l.length:=by omega
  simp only [decide_eq_false_iff_not,List.getD_eq_getElem?_getD,List.getElem?_eq_getElem hi,List.getElem?_eq_getElem hjl,Option.getD_some]
  intro e
  rw [List.nodup_iff_pairwise_ne,List.pairwise_iff_getElem] at h
  exact h j i hjl hi hj e
theorem ck5_f {l:List Int} {i:Nat} (hi:i<l.length) (h:l.getD i default<0∨l.getD i default > 15∨at5 l (l.getD i default)≠i):lCheck l=false:=by
  cases hc:lCheck l with
  | false=>rfl
  | true =>
    exfalso
    rw [lCheck_iff] at hc
    rcases h with h | h | h
    · have:=hc.2 _ (getD_mem (d:=default) hi); omega
    · have:=hc.2 _ (getD_mem (d:=default) hi); omega
    · exact h (at5_self hc.1 hi)
def F158:AFn:=⟨19,(.seq (.reg [o1 4 (.mv (ci 0))]) (.seq (.seq (.reg [o1 5 (.mv (ci 0))]) (.block 0 (.loop (.seq (.seq (.reg [o1 6 (.mv 5),o1 7 (.mv 0),o1 8 (.len 7),o1 9 (.bin .lss 6 8)]) (.cond 9 .skip (.exit 0))) (.seq (.block 1 (.seq (.reg [o1 12 (.mv 0),o1 13 (.mv 5),o1 14 (.iaddr 1 12 13),o1 15 (.ld 1 false 14),o1 16 (.mv 1),o1 17 (.bin .eql 15 16)]) (.cond 17 (.seq (.reg [o1 18 (.mv 5),o1 4 (.mv 18)]) .ret) .skip))) (.reg [o1 10 (.mv 5),o1 11 (.bin .add 10 (ci 1)),o1 5 (.mv 11)])))))) (.seq (.reg [o1 4 (.mv (ci (-1)))]) .ret))),[(4,none)]⟩
theorem x158:xf Tryz.prog 158=some F158:=by kernel_rfl
theorem con158 {id:Int} {l:List Int}:Con Tryz.prog 158 [.slv 1 (l.map encI),.int .i64 id] (.int .i64 (at5 l id),[],[]):=by
  refine mcb_of_vc mix x158 (by simp [F158]) fun hw _=>?_
  simp only [wfs,AV.wf,inR_i64,List.length_map] at hw
  simp -implicitDefEqProofs only [F158,qA,doLd,doSt,splice,doEqs,qU,List.reduceReplicate,Nat.reduceAdd,Nat.reduceSub,Nat.reduceLeDiff,Nat.reduceEqDiff,Nat.reduceMul,reduceIte,reduceCtorEq,encI,Int.toNat_natCast,Int.natCast_zero,len_slv]
  refine ls_of (fun i:Nat=>[some (.slv 1 (l.map encI)),some (.int .i64 id),none,none,none,some (.int .i64 i),none,none,none,none,none,none,none,none,none,none,none,none,none]) (fun i=>i≤l.length∧∀ j,j<i→(fun y=>decide (y=id)) (l.getD j default)=false) (fun i=>l.length - i) 0 ?_ ?_ ?_ ?_ ?_
  rotate_right
  · intro i hJ
    simp only [all_some,all_none,all_nil]
    intros
    repeat' with_reducible first|refine gTn_of (fun h=>?_) (fun h=>?_)|refine gT_of (fun h=>?_) (fun h=>?_)|refine caseTn_of (fun h=>?_) (fun h=>?_)|refine caseT_of (fun h=>?_) (fun h=>?_)|refine fin_pure ?_ ?_ ?_ ?_|refine kv_ifn ?_ ?_|refine kv_if ?_ ?_|refine k_if ?_ ?_|refine ia_of (d:=default) ?_ ?_|refine rs_of (i+1) ?_ ?_ ?_ ?_ ?_|simp -implicitDefEqProofs only [F158,qA,doLd,doSt,splice,doEqs,qU,List.reduceReplicate,Nat.reduceAdd,Nat.reduceSub,Nat.reduceLeDiff,Nat.reduceEqDiff,Nat.reduceMul,reduceIte,reduceCtorEq,encI,Int.toNat_natCast,Int.natCast_zero,len_slv, *]
    all_goals first
    | (simp; done)
    | exact idxF_found (d:=default) (by grind) (by grind) (by assumption)
    | exact idxF_none (d:=default) (fun j hj=>by grind)
    | grind [inR_i64,wrap64,maxLen_eq,getD_mem]
  all_goals first
    | (simp; done)
    | (simp -implicitDefEqProofs only [F158,qA,doLd,doSt,splice,doEqs,qU,List.reduceReplicate,Nat.reduceAdd,Nat.reduceSub,Nat.reduceLeDiff,Nat.reduceEqDiff,Nat.reduceMul,reduceIte,reduceCtorEq,encI,Int.toNat_natCast,Int.natCast_zero,len_slv]; done)
    | exact idxF_found (d:=default) (by grind) (by grind) (by assumption)
    | exact idxF_none (d:=default) (fun j hj=>by grind)
    | grind [inR_i64,wrap64,maxLen_eq,getD_mem]

def F157:AFn:=⟨32,(.seq (.reg [o1 2 (.mv (.const (.bool false)))]) (.seq (.seq (.reg [o1 3 (.mv (ci 0))]) (.block 0 (.loop (.seq (.seq (.reg [o1 4 (.mv 3),o1 5 (.mv 0),o1 6 (.len 5),o1 7 (.bin .lss 4 6)]) (.cond 7 .skip (.exit 0))) (.seq (.block 1 (.seq (.reg [o1 10 (.mv 0),o1 11 (.mv 3),o1 12 (.iaddr 1 10 11),o1 13 (.ld 1 false 12),o1 14 (.bin .lss 13 (ci 0)),o1 15 (.mv 14),o4 16 (.mv 0) 15,o4 17 (.mv 3) 15,o4 18 (.iaddr 1 16 17) 15,o4 19 (.ld 1 false 18) 15,o4 20 (.bin .gtr 19 (ci 15)) 15,o1 21 (.pick 15 (.const (.bool true)) 20),o1 22 (.mv 21),o4 23 (.mv 0) 22,o4 24 (.mv 0) 22,o4 25 (.mv 3) 22,o4 26 (.iaddr 1 24 25) 22,o4 27 (.ld 1 false 26) 22,o4 28 (.call 158 [23,27]) 22,o4 29 (.mv 3) 22,o4 30 (.bin .neq 28 29) 22,o1 31 (.pick 22 (.const (.bool true)) 30)]) (.cond 31 (.seq (.reg [o1 2 (.mv (.const (.bool false)))]) .ret) .skip))) (.reg [o1 8 (.mv 3),o1 9 (.bin .add 8 (ci 1)),o1 3 (.mv 9)])))))) (.seq (.reg [o1 2 (.mv (.const (.bool true)))]) .ret))),[(2,none)]⟩
theorem x157:xf Tryz.prog 157=some F157:=by kernel_rfl
theorem con157 {l:List Int}:Con Tryz.prog 157 [.slv 1 (l.map encI)] (.bool (lCheck l),[],[]):=by
  refine mcb_of_vc mix x157 (by simp [F157]) fun hw _=>?_
  simp only [wfs,AV.wf,inR_i64,List.length_map] at hw
  simp -implicitDefEqProofs only [F157,qA,doLd,doSt,splice,doEqs,qU,List.reduceReplicate,Nat.reduceAdd,Nat.reduceSub,Nat.reduceLeDiff,Nat.reduceEqDiff,Nat.reduceMul,reduceIte,reduceCtorEq,encI,Int.toNat_natCast,Int.natCast_zero,len_slv]
  refine ls_of (fun i:Nat=>[some (.slv 1 (l.map encI)),none,none,some (.int .i64 i),none,none,none,none,none,none,none,none,none,none,none,none,none,none,none,none,none,none,none,none,none,none,none,none,none,none,none,none]) (fun i=>i≤l.length∧ck5 l i) (fun i=>l.length - i) 0 ?_ ?_ ?_ ?_ ?_
  rotate_right
  · intro i hJ
    simp only [all_some,all_none,all_nil]
    intros
    repeat' with_reducible first|refine gTn_of (fun h=>?_) (fun h=>?_)|refine gT_of (fun h=>?_) (fun h=>?_)|refine caseTn_of (fun h=>?_) (fun h=>?_)|refine caseT_of (fun h=>?_) (fun h=>?_)|refine fin_pure ?_ ?_ ?_ ?_|refine kv_ifn ?_ ?_|refine kv_if ?_ ?_|refine k_if ?_ ?_|refine ia_of (d:=default) ?_ ?_|refine rs_of (i+1) ?_ ?_ ?_ ?_ ?_|refine P0 (con158) ?_ ?_ ?_|refine ACV.of (con158) ?_ ?_ ?_|refine ACK.of (con158) ?_ ?_|simp -implicitDefEqProofs only [F157,qA,doLd,doSt,splice,doEqs,qU,List.reduceReplicate,Nat.reduceAdd,Nat.reduceSub,Nat.reduceLeDiff,Nat.reduceEqDiff,Nat.reduceMul,reduceIte,reduceCtorEq,encI,Int.toNat_natCast,Int.natCast_zero,len_slv, *]
    all_goals first
    | (simp; done)
    | exact fun j hj=>absurd hj (Nat.not_lt_zero j)
    | exact ⟨Nat.zero_le _,fun j hj=>absurd hj (Nat.not_lt_zero j)⟩
    | exact ck5_f (i:=i) (by grind) (by simp only [cond_false,cond_true,decide_eq_true_eq,Bool.not_eq_true',decide_eq_false_iff_not] at *; omega)
    | exact (ck5_f (i:=i) (by grind) (by simp only [cond_false,cond_true,decide_eq_true_eq,Bool.not_eq_true',decide_eq_false_iff_not] at *; omega)).symm
    | exact ck5_t (by grind)
    | exact (ck5_t (by grind)).symm
    | exact ⟨by grind,ck5_s hJ.2 (by simp only [cond_false,cond_true,decide_eq_true_eq,decide_eq_false_iff_not,Bool.not_eq_false'] at *; omega) (by simp only [cond_false,cond_true,decide_eq_true_eq,decide_eq_false_iff_not,Bool.not_eq_false'] at *; omega) (by simp only [cond_false,cond_true,decide_eq_true_eq,decide_eq_false_iff_not,Bool.not_eq_false'] at *; assumption)⟩
    | grind [inR_i64,wrap64,maxLen_eq,getD_mem]
  all_goals first
    | (simp; done)
    | (simp -implicitDefEqProofs only [F157,qA,doLd,doSt,splice,doEqs,qU,List.reduceReplicate,Nat.reduceAdd,Nat.reduceSub,Nat.reduceLeDiff,Nat.reduceEqDiff,Nat.reduceMul,reduceIte,reduceCtorEq,encI,Int.toNat_natCast,Int.natCast_zero,len_slv]; done)
    | exact fun j hj=>absurd hj (Nat.not_lt_zero j)
    | exact ⟨Nat.zero_le _,fun j hj=>absurd hj (Nat.not_lt_zero j)⟩
    | exact ck5_f (i:=i) (by grind) (by simp only [cond_false,cond_true,decide_eq_true_eq,Bool.not_eq_true',decide_eq_false_iff_not] at *; omega)
    | exact (ck5_f (i:=i) (by grind) (by simp only [cond_false,cond_true,decide_eq_true_eq,Bool.not_eq_true',decide_eq_false_iff_not] at *; omega)).symm
    | exact ck5_t (by grind)
    | exact (ck5_t (by grind)).symm
    | exact ⟨by grind,ck5_s hJ.2 (by simp only [cond_false,cond_true,decide_eq_true_eq,decide_eq_false_iff_not,Bool.not_eq_false'] at *; omega) (by simp only [cond_false,cond_true,decide_eq_true_eq,decide_eq_false_iff_not,Bool.not_eq_false'] at *; omega) (by simp only [cond_false,cond_true,decide_eq_true_eq,decide_eq_false_iff_not,Bool.not_eq_false'] at *; assumption)⟩
    | grind [inR_i64,wrap64,maxLen_eq,getD_mem]

def F159:AFn:=⟨13,(.seq (.reg [o1 4 (.mv (ci 0))]) (.seq (.reg [o1 6 (.mv 0),o1 7 (.call 157 [6]),o1 5 (.mv 7)]) (.seq (.seq (.reg [o1 8 (.mv 5),o1 9 (.not 8)]) (.cond 9 (.seq (.reg [o1 4 (.mv (ci (-1)))]) .ret) .skip)) (.seq (.reg [o1 10 (.mv 0),o1 11 (.mv 1),o1 12 (.call 158 [10,11]),o1 4 (.mv 12)]) .ret)))),[(4,none)]⟩
theorem x159:xf Tryz.prog 159=some F159:=by kernel_rfl
theorem con159 {id:Int} {l:List Int}:Con Tryz.prog 159 [.slv 1 (l.map encI),.int .i64 id] ((.int .i64 (lPlace l id)),[],[]):=by
  refine mcb_of_vc mix x159 (by simp [F159]) fun hw _=>?_
  simp only [wfs,AV.wf,inR_i64] at hw
  repeat' with_reducible first|refine gTn_of (fun h=>?_) (fun h=>?_)|refine gT_of (fun h=>?_) (fun h=>?_)|refine caseTn_of (fun h=>?_) (fun h=>?_)|refine caseT_of (fun h=>?_) (fun h=>?_)|refine fin_pure ?_ ?_ ?_ ?_|refine kv_ifn ?_ ?_|refine kv_if ?_ ?_|refine k_if ?_ ?_|refine P0 (con157) ?_ ?_ ?_|refine ACV.of (con157) ?_ ?_ ?_|refine ACK.of (con157) ?_ ?_|refine P0 (con158) ?_ ?_ ?_|refine ACV.of (con158) ?_ ?_ ?_|refine ACK.of (con158) ?_ ?_|simp -implicitDefEqProofs only [F159,qA,doLd,doSt,splice,doEqs,qU,List.reduceReplicate,Nat.reduceAdd,Nat.reduceSub,Nat.reduceLeDiff,Nat.reduceEqDiff,Nat.reduceMul,reduceIte,reduceCtorEq, *]
  all_goals first
    | (simp; done)
    | exact idxF_any
    | exact idxF_any.symm
    | grind [inR_i64,wrap64,maxLen_eq,lPlace,at5_eq]

theorem one_check {id:Int}:lCheck [id]=true↔0≤id∧id≤15:=by
  rw [lCheck_iff]; simp; omega
theorem place5 {l:List Int} {id:Int} (h:lCheck l=true):lPlace l id=at5 l id:=by unfold lPlace; rw [if_pos h,at5_eq]
theorem enter_no {l:List Int} {id:Int} (h:lCheck l=false∨id<0∨id > 15):lEnter l id=(l,40):=by
  unfold lEnter; rw [if_pos]
  rcases h with h | h | h
  · exact .inl (by simp [h])
  · exact .inr (fun e=>by have:=one_check.1 e; omega)
  · exact .inr (fun e=>by have:=one_check.1 e; omega)
theorem enter_two {l:List Int} {id:Int} (h:lCheck l=true) (h1:¬ id<0) (h2:¬ id > 15) (h3:at5 l id≥0):lEnter l id=(l,60):=by
  unfold lEnter
  rw [if_neg (by simp only [not_or,Classical.not_not]; exact ⟨h,one_check.2 ⟨by omega,by omega⟩⟩),if_pos (by rw [place5 h]; exact h3)]
theorem enter_y {l:List Int} {id:Int} (h:lCheck l=true) (h1:¬ id<0) (h2:¬ id > 15) (h3:¬ at5 l id≥0):lEnter l id=(l ++ [id],0):=by
  unfold lEnter
  rw [if_neg (by simp only [not_or,Classical.not_not]; exact ⟨h,one_check.2 ⟨by omega,by omega⟩⟩),if_neg (by rw [place5 h]; exact h3)]
theorem puress_app {a b:List (List AV)} (ha:puress a=true) (hb:puress b=true):puress (a ++ b)=true:=by
  induction a with
  | nil=>exact hb
  | cons x a ih=>simp only [List.cons_append,puress,Bool.and_eq_true] at ha ⊢; exact ⟨ha.1,ih ha.2⟩
theorem slc5_hi {f:Nat→Option Blk} {g0:Nat} {l:List Int} {k:Nat} (h:k≤l.length):doSlc f g0 1 (.slv 1 (l.map encI)) none (some (.int .i64 k))=some { v:=.slv 1 ((l.take k).map encI) }:=by
  simp [doSlc,h,List.map_take]
theorem slc5_lo {f:Nat→Option Blk} {g0:Nat} {l:List Int} {k:Nat} (h:k≤l.length):doSlc f g0 1 (.slv 1 (l.map encI)) (some (.int .i64 k)) none=some { v:=.slv 1 ((l.drop k).map encI) }:=by
  simp only [doSlc,List.length_map]
  rw [if_pos (by simp; omega)]
  rw [List.take_of_length_le (by simp),List.map_drop]; rfl
def F69:AFn:=⟨31,(.seq (.reg [o1 4 (.mv (.const .slnil)),o1 5 (.mv (ci 0))]) (.seq (.reg [o1 7 (.mv 0),o1 8 (.call 157 [7]),o1 6 (.mv 8)]) (.seq (.seq (.reg [o1 9 (.mv 6),o1 10 (.not 9),o1 11 (.mv 10),o4 12 (.mv 1) 11,o4 13 (.bin .lss 12 (ci 0)) 11,o1 14 (.pick 11 (.const (.bool true)) 13),o1 15 (.mv 14),o4 16 (.mv 1) 15,o4 17 (.bin .gtr 16 (ci 15)) 15,o1 18 (.pick 15 (.const (.bool true)) 17)]) (.cond 18 (.seq (.reg [o1 19 (.mv 0),o1 4 (.mv 19),o1 5 (.mv (ci 40))]) .ret) .skip)) (.seq (.seq (.reg [o1 20 (.mv 0),o1 21 (.mv 1),o1 22 (.call 158 [20,21]),o1 23 (.bin .geq 22 (ci 0))]) (.cond 23 (.seq (.reg [o1 24 (.mv 0),o1 4 (.mv 24),o1 5 (.mv (ci 60))]) .ret) .skip)) (.seq (.reg [o1 25 (.bslice 3 1 0 []),o1 26 (.mv 0),o1 27 (.app 3 1 8 25 26),o1 28 (.mv 1),o1 29 (.bslice 3 1 1 [28]),o1 30 (.app 3 1 8 27 29),o1 4 (.mv 30),o1 5 (.mv (ci 0))]) .ret))))),[(4,none),(5,none)]⟩
theorem x69:xf Tryz.prog 69=some F69:=by kernel_rfl
theorem con69 {l:List Int} {id:Int} (hl:l.length≤1000000):Con Tryz.prog 69 [.slv 1 (l.map encI),.int .i64 id] (.tup [.slv 1 ((lEnter l id).1.map encI),.int .i64 (lEnter l id).2],[],[]):=by
  refine mcb_of_vc mix x69 (by simp [F69]) fun hw _=>?_
  clear hw
  repeat' with_reducible first|refine gTn_of (fun h=>?_) (fun h=>?_)|refine gT_of (fun h=>?_) (fun h=>?_)|refine caseTn_of (fun h=>?_) (fun h=>?_)|refine caseT_of (fun h=>?_) (fun h=>?_)|refine FN ?_ ?_ ?_ ?_ rfl ?_|refine kv_ifn ?_ ?_|refine kv_if ?_ ?_|refine k_if ?_ ?_|refine IA ?_ ?_ ?_|refine L1 ?_ ?_|refine L2 ?_ ?_|refine L3 ?_ ?_ ?_ ?_|refine L4 ?_ ?_|refine L5 ?_ ?_ ?_ ?_ ?_|refine L6 ?_ ?_ ?_ ?_ ?_|refine ap_of (rw_slv _ _ _) (by simp -implicitDefEqProofs only [m_get,Nat.reduceEqDiff,reduceIte,if_true,if_false]; first|done|exact rfl) ?_ ?_ ?_ ?_|refine ap_of (rw_slm _ _ _ _ _ _ (by simp -implicitDefEqProofs only [m_get,Nat.reduceEqDiff,reduceIte,if_true,if_false]; first|done|exact rfl) ?_) (by simp -implicitDefEqProofs only [m_get,Nat.reduceEqDiff,reduceIte,if_true,if_false]; first|done|exact rfl) ?_ ?_ ?_ ?_|refine P0 (con157) ?_ ?_ ?_|refine ACV.of (con157) ?_ ?_ ?_|refine ACK.of (con157) ?_ ?_|refine P0 (con158) ?_ ?_ ?_|refine ACV.of (con158) ?_ ?_ ?_|refine ACK.of (con158) ?_ ?_|simp -implicitDefEqProofs only [F69,qA,ld_0,ld_pv,st_0,splice,doEqs,qU,List.reduceReplicate,Nat.reduceAdd,Nat.reduceSub,Nat.reduceLeDiff,Nat.reduceEqDiff,Nat.reduceMul,reduceIte,reduceCtorEq,qI,Nat.reduceLT,Nat.reduceBEq,up_s,Int.toNat_natCast,encT,encI,doBslice,trss_append, *]
  all_goals first
    | omega
    | (rw [enter_no (.inl (by assumption))]; exact Wk.refl _)
    | (rw [enter_no (.inr (.inl (of_decide_eq_true (by assumption))))]; exact Wk.refl _)
    | (rw [enter_no (.inr (.inr (of_decide_eq_true (by assumption))))]; exact Wk.refl _)
    | (rw [enter_two (by assumption) (of_decide_eq_false (by assumption)) (of_decide_eq_false (by assumption)) (of_decide_eq_true (by assumption))]; exact Wk.refl _)
    | exact puress_app (puress_map pure_encI _) rfl
    | (rw [enter_y (by assumption) (of_decide_eq_false (by assumption)) (of_decide_eq_false (by assumption)) (of_decide_eq_false (by assumption)),List.take_of_length_le (by simp)]; exact Wk.of_eq (by simp [encI]))
    | trace_state

def F81:AFn:=⟨23,(.seq (.reg [o1 4 (.mv (.const .slnil)),o1 5 (.mv (ci 0))]) (.seq (.reg [o1 7 (.mv 0),o1 8 (.mv 1),o1 9 (.call 159 [7,8]),o1 6 (.mv 9)]) (.seq (.seq (.reg [o1 10 (.mv 6),o1 11 (.bin .lss 10 (ci 0))]) (.cond 11 (.seq (.reg [o1 12 (.mv 0),o1 4 (.mv 12),o1 5 (.mv (ci 40))]) .ret) .skip)) (.seq (.regT [o1 13 (.bslice 3 1 0 []),o1 14 (.mv 0),o1 15 (.mv 6),o1 16 (.slc 1 14 none (some 15)),o1 17 (.app 3 1 8 13 16),o1 18 (.mv 0),o1 19 (.mv 6),o1 20 (.bin .add 19 (ci 1)),o1 21 (.slc 1 18 (some 20) none),o1 22 (.app 3 1 8 17 21),o1 4 (.mv 22),o1 5 (.mv (ci 0))] [(0,3),(0,8),(3,8),(4,8)]) .ret)))),[(4,none),(5,none)]⟩
theorem x81:xf Tryz.prog 81=some F81:=by kernel_rfl
theorem con81 {l:List Int} {id:Int} (hl:l.length≤1000000):Con Tryz.prog 81 [.slv 1 (l.map encI),.int .i64 id] (.tup [.slv 1 ((lLeave l id).1.map encI),.int .i64 (lLeave l id).2],[],[]):=by
  by_cases hp:lPlace l id<0
  · rw [show lLeave l id=(l,40) from by unfold lLeave; rw [if_pos hp]]
    refine mcb_of_vc mix x81 (by simp [F81]) fun hw _=>?_
    clear hw
    repeat' with_reducible first|refine gTn_of (fun h=>?_) (fun h=>?_)|refine gT_of (fun h=>?_) (fun h=>?_)|refine caseTn_of (fun h=>?_) (fun h=>?_)|refine caseT_of (fun h=>?_) (fun h=>?_)|refine FN ?_ ?_ ?_ ?_ rfl ?_|refine kv_ifn ?_ ?_|refine kv_if ?_ ?_|refine k_if ?_ ?_|refine IA ?_ ?_ ?_|refine L1 ?_ ?_|refine L2 ?_ ?_|refine L3 ?_ ?_ ?_ ?_|refine L4 ?_ ?_|refine L5 ?_ ?_ ?_ ?_ ?_|refine L6 ?_ ?_ ?_ ?_ ?_|refine ap_of (rw_slv _ _ _) (by simp -implicitDefEqProofs only [m_get,Nat.reduceEqDiff,reduceIte,if_true,if_false]; first|done|exact rfl) ?_ ?_ ?_ ?_|refine ap_of (rw_slm _ _ _ _ _ _ (by simp -implicitDefEqProofs only [m_get,Nat.reduceEqDiff,reduceIte,if_true,if_false]; first|done|exact rfl) ?_) (by simp -implicitDefEqProofs only [m_get,Nat.reduceEqDiff,reduceIte,if_true,if_false]; first|done|exact rfl) ?_ ?_ ?_ ?_|refine P0 (con159) ?_ ?_ ?_|refine ACV.of (con159) ?_ ?_ ?_|refine ACK.of (con159) ?_ ?_|simp -implicitDefEqProofs only [F81,qA,ld_0,ld_pv,st_0,splice,doEqs,qU,List.reduceReplicate,Nat.reduceAdd,Nat.reduceSub,Nat.reduceLeDiff,Nat.reduceEqDiff,Nat.reduceMul,reduceIte,reduceCtorEq,qI,Nat.reduceLT,Nat.reduceBEq,up_s,Int.toNat_natCast,encT,encI,doBslice,trss_append, *]
    all_goals first
      | exact Wk.refl _
      | (exfalso; have:=of_decide_eq_false (by assumption:decide (lPlace l id<0)=false); omega)
      | trace_state
  · rw [show lLeave l id=(l.eraseIdx (lPlace l id).toNat,0) from by unfold lLeave; rw [if_neg hp]]
    have hlt:lPlace l id<l.length:=by
      unfold lPlace at hp ⊢
      split at hp
      · rename_i h; rw [if_pos h]; rcases @idx_le (fun y=>decide (id=y)) l with h2 | h2 <;> omega
      · omega
    obtain ⟨k,hk⟩:∃ k:Nat,lPlace l id=(k:Int):=⟨(lPlace l id).toNat,by omega⟩
    rw [hk] at hp hlt
    have h1:=@slc5_hi (AM.get []) 0 l k (by omega)
    have hkk:k≤l.length:=by omega
    have hk1:k+1≤l.length:=by omega
    have hwk:IntKind.wrap .i64 ((k:Int)+1)=((k+1:Nat):Int):=by rw [wrap64 (by omega) (by omega)]; rfl
    rw [hk,Int.toNat_natCast,List.eraseIdx_eq_take_drop_succ]
    have hd:((k:Int)<0)=False:=by simp
    clear hp h1
    refine mcb_of_vc mix x81 (by simp [F81]) fun hw _=>?_
    clear hw
    repeat' with_reducible first|refine gTn_of (fun h=>?_) (fun h=>?_)|refine gT_of (fun h=>?_) (fun h=>?_)|refine caseTn_of (fun h=>?_) (fun h=>?_)|refine caseT_of (fun h=>?_) (fun h=>?_)|refine FN ?_ ?_ ?_ ?_ rfl ?_|refine kv_ifn ?_ ?_|refine kv_if ?_ ?_|refine k_if ?_ ?_|refine IA ?_ ?_ ?_|refine L1 ?_ ?_|refine L2 ?_ ?_|refine L3 ?_ ?_ ?_ ?_|refine L4 ?_ ?_|refine L5 ?_ ?_ ?_ ?_ ?_|refine L6 ?_ ?_ ?_ ?_ ?_|refine ap_of (rw_slv _ _ _) (by simp -implicitDefEqProofs only [m_get,Nat.reduceEqDiff,reduceIte,if_true,if_false]; first|done|exact rfl) ?_ ?_ ?_ ?_|refine ap_of (rw_slm _ _ _ _ _ _ (by simp -implicitDefEqProofs only [m_get,Nat.reduceEqDiff,reduceIte,if_true,if_false]; first|done|exact rfl) ?_) (by simp -implicitDefEqProofs only [m_get,Nat.reduceEqDiff,reduceIte,if_true,if_false]; first|done|exact rfl) ?_ ?_ ?_ ?_|refine P0 (con159) ?_ ?_ ?_|refine ACV.of (con159) ?_ ?_ ?_|refine ACK.of (con159) ?_ ?_|simp -implicitDefEqProofs only [F81,qA,ld_0,ld_pv,st_0,splice,doEqs,qU,List.reduceReplicate,Nat.reduceAdd,Nat.reduceSub,Nat.reduceLeDiff,Nat.reduceEqDiff,Nat.reduceMul,reduceIte,reduceCtorEq,qI,Nat.reduceLT,Nat.reduceBEq,up_s,Int.toNat_natCast,encT,encI,doBslice,trss_append,slc5_hi hkk,slc5_lo hk1, *]
    all_goals first
      | exact Wk.refl _
      | omega
      | (simp; omega)
      | exact puress_app (puress_map pure_encI _) (puress_map pure_encI _)
      | (rw [List.take_of_length_le (by simp)]; exact Wk.of_eq (by rw [List.map_append]))
      | trace_state

end Go.Sak
