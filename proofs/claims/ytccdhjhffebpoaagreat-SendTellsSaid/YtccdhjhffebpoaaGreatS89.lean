/- Part S89 of the proofs about the program: K117. Conditions: none. -/
import Derived.Test.YtccdhjhffebpoaaGreatS88
import Derived.Test.YtccdhjhffebpoaaGreatS37
import Derived.Test.YtccdhjhffebpoaaGreatS04
import Derived.Test.YtccdhjhffebpoaaGreatProg
import Derived.KernelRfl
namespace Go.Sak
open Go Go.RowKit Go.Proofs
set_option linter.unusedVariables false
set_option linter.unusedSimpArgs false
set_option maxRecDepth 10000
set_option maxHeartbeats 8000000
def F3:AFn:=⟨79,(.seq (.reg [o1 4 (.box 33 0),o1 8 (.mv (.const (.bool false)))]) (.seq (.reg [o1 15 (.call 15 []),o1 9 (.mv 15)]) (.seq (.seq (.reg [o1 16 (.ld 20 true 4),o1 17 (.call 16 [16]),o1 18 (.not 17),o1 19 (.mv 18),o4 20 (.mv 2) 19,o4 21 (.bin .gtr 20 (ci 30)) 19,o1 22 (.pick 19 (.const (.bool true)) 21)]) (.cond 22 (.seq (.reg [o1 23 (.mv 9),o1 8 (.mv 23)]) .ret) .skip)) (.seq (.reg [o1 25 (.ld 20 true 4),o1 26 (.mv 1),o1 27 (.mv 2),o1 28 (.call 17 [25,26,27]),o1 24 (.mv 28),o1 29 (.ext 24 0),o1 30 (.ext 24 1),o1 10 (.alloc 33 [(.int .i64 0),(.int .i64 0),(.int .i64 0),(.int .i64 0),(.int .i64 0),(.int .i64 0),(.bool false),(.int .i64 0),(.int .i64 0),(.int .i64 0),.slnil,.slnil,.slnil,(.int .i64 0),.slnil,(.int .i64 0),.slnil,(.int .i64 0),.slnil,.slnil]),o2 (.st 20 10 29),o1 11 (.mv 30)]) (.seq (.reg [o1 32 (.ld 20 true 4),o1 33 (.mv 1),o1 34 (.mv 2),o1 35 (.call 18 [32,33,34]),o1 31 (.mv 35),o1 36 (.ext 31 0),o1 37 (.ext 31 1),o1 12 (.alloc 33 [(.int .i64 0),(.int .i64 0),(.int .i64 0),(.int .i64 0),(.int .i64 0),(.int .i64 0),(.bool false),(.int .i64 0),(.int .i64 0),(.int .i64 0),.slnil,.slnil,.slnil,(.int .i64 0),.slnil,(.int .i64 0),.slnil,(.int .i64 0),.slnil,.slnil]),o2 (.st 20 12 36),o1 13 (.mv 37)]) (.seq (.reg [o1 14 (.mv (ci 0))]) (.seq (.seq (.reg [o1 38 (.mv 3),o1 39 (.bin .eql 38 (ci 4))]) (.cond 39 (.reg [o1 14 (.mv (ci 2))]) .skip)) (.seq (.seq (.reg [o1 40 (.mv 3),o1 41 (.bin .eql 40 (ci 6))]) (.cond 41 (.reg [o1 14 (.mv (ci 1))]) .skip)) (.seq (.regT [o1 42 (.mv 9),o1 43 (.mv 42),o3 44 (.ld 20 true 4) 43,o3 45 (.mv 1) 43,o3 46 (.call 20 [44,45]) 43,o3 47 (.ld 20 true 4) 43,o3 48 (.mv 1) 43,o3 49 (.call 21 [47,48]) 43,o3 50 (.call 19 [46,49]) 43,o1 51 (.pick 43 50 (.const (.bool false))),o1 52 (.mv 51),o3 53 (.ld 20 true 10) 52,o3 54 (.ld 20 true 12) 52,o3 55 (.call 19 [53,54]) 52,o1 56 (.pick 52 55 (.const (.bool false))),o1 57 (.mv 56),o3 58 (.mv 11) 57,o3 59 (.mv 13) 57,o3 60 (.bin .eql 58 59) 57,o1 61 (.pick 57 60 (.const (.bool false))),o1 62 (.mv 61),o3 63 (.mv 3) 62,o3 64 (.call 22 [63]) 62,o3 65 (.mv 3) 62,o3 66 (.bin .geq 65 (ci 1)) 62,o3 67 (.mv 66) 62,o3 68 (.mv 3) 67,o3 69 (.bin .leq 68 (ci 11)) 67,o3 70 (.pick 67 69 (.const (.bool false))) 62,o3 71 (.eqb false 64 70) 62,o1 72 (.pick 62 71 (.const (.bool false))),o1 73 (.mv 72),o3 74 (.mv 3) 73,o3 75 (.call 23 [74]) 73,o3 76 (.mv 14) 73,o3 77 (.bin .eql 75 76) 73,o1 78 (.pick 73 77 (.const (.bool false))),o1 8 (.mv 78)] [(2,5),(4,5),(11,12)]) .ret))))))))),[(8,none)]⟩
theorem x3:xf Tryz.prog 3=some F3:=by kernel_rfl
theorem con3 {s:State} {id many pc:Int}:Con Tryz.prog 3 [.agg (encZ s),.int .i64 id,.int .i64 many,.int .i64 pc] (.bool true,[],[]):=by
  refine mcb_of_vc mix x3 (by simp [F3]) fun hw _=>?_
  clear hw
  repeat' with_reducible first|refine gTn_of (fun h=>?_) (fun h=>?_)|refine gT_of (fun h=>?_) (fun h=>?_)|refine caseTn_of (fun h=>?_) (fun h=>?_)|refine caseT_of (fun h=>?_) (fun h=>?_)|refine FN ?_ ?_ ?_ ?_ rfl ?_|refine kv_ifn ?_ ?_|refine kv_if ?_ ?_|refine k_if ?_ ?_|refine IA ?_ ?_ ?_|refine L1 ?_ ?_|refine L2 ?_ ?_|refine L3 ?_ ?_ ?_ ?_|refine L4 ?_ ?_|refine L5 ?_ ?_ ?_ ?_ ?_|refine L6 ?_ ?_ ?_ ?_ ?_|refine AC.p0 (con15 ) ?_ (by simp -implicitDefEqProofs only [qU,pure_encZ]; done) ?_ ?_|refine AC.p0 (con16s ) ?_ (by simp -implicitDefEqProofs only [qU,pure_encZ]; done) ?_ ?_|refine AC.p0 (con17 ?_) ?_ (by simp -implicitDefEqProofs only [qU,pure_encZ]; done) ?_ ?_|refine AC.p0 (con20s ?_) ?_ (by simp -implicitDefEqProofs only [qU,pure_encZ]; done) ?_ ?_|refine AC.p0 (con19s ?_) ?_ (by simp -implicitDefEqProofs only [qU,pure_encZ]; done) ?_ ?_|refine AC.p0 (con18 ?_) ?_ (by simp -implicitDefEqProofs only [qU,pure_encZ]; done) ?_ ?_|refine AC.p0 (con21 ?_) ?_ (by simp -implicitDefEqProofs only [qU,pure_encZ]; done) ?_ ?_|refine P0 (con22) ?_ ?_ ?_|refine ACV.of (con22) ?_ ?_ ?_|refine ACK.of (con22) ?_ ?_|refine P0 (con23) ?_ ?_ ?_|refine ACV.of (con23) ?_ ?_ ?_|refine ACK.of (con23) ?_ ?_|simp -implicitDefEqProofs only [F3,qA,ld_0,ld_pv,st_0,splice,doEqs,qU,List.reduceReplicate,Nat.reduceAdd,Nat.reduceSub,Nat.reduceLeDiff,Nat.reduceEqDiff,Nat.reduceMul,reduceIte,reduceCtorEq,qI,Nat.reduceLT,Nat.reduceBEq,up_s,Int.toNat_natCast,encT,qZ,Int.reduceEq,Int.reduceNe, *]
  all_goals first
    | exact Wk.refl _
    | exact (few_bd (by assumption)).mono (by omega)
    | exact (bd_sStep (few_bd (by assumption))).mono (by omega)
    | exact (bd_sSteps (few_bd (by assumption))).mono (by omega)
    | (exfalso; grind [sNear,sInside])
    | (refine Wk.of_eq ?_; congr 1; grind [sNear,sInside])
    | trace_state

end Go.Sak
