/- Part S129 of the proofs about the program: K235. Conditions: none. -/
import Derived.Test.YtahdilehajdhgaaGreatS125
import Derived.Test.YtahdilehajdhgaaGreatS31
import Derived.Test.YtahdilehajdhgaaGreatS128
import Derived.Test.YtahdilehajdhgaaGreatS04
import Derived.Test.YtahdilehajdhgaaGreatProg
import Derived.KernelRfl
namespace Go.Sak
open Go Go.RowKit Go.Proofs
set_option linter.unusedVariables false
set_option linter.unusedSimpArgs false
set_option maxRecDepth 10000
set_option maxHeartbeats 8000000
def F9:AFn:=⟨75,(.seq (.reg [o1 2 (.box 54 0),o1 4 (.mv (.const (.bool false)))]) (.seq (.reg [o1 10 (.call 22 []),o1 5 (.mv 10)]) (.seq (.seq (.reg [o1 11 (.mv 1),o1 12 (.len 11),o1 13 (.bin .gtr 12 (ci 10))]) (.cond 13 (.seq (.reg [o1 14 (.mv 5),o1 4 (.mv 14)]) .ret) .skip)) (.seq (.reg [o1 16 (.ld 4 true 2),o1 17 (.call 29 [16]),o1 18 (.call 23 [17]),o1 15 (.mv 18),o1 19 (.ext 15 0),o1 20 (.ext 15 1),o1 6 (.alloc 54 [(.int .i64 0),(.int .i64 0),(.int .i64 0),(.int .i64 0)]),o2 (.st 4 6 19),o1 7 (.mv 20)]) (.seq (.reg [o1 22 (.mv 1),o1 23 (.call 23 [22]),o1 21 (.mv 23),o1 24 (.ext 21 0),o1 25 (.ext 21 1),o1 8 (.alloc 54 [(.int .i64 0),(.int .i64 0),(.int .i64 0),(.int .i64 0)]),o2 (.st 4 8 24),o1 9 (.mv 25)]) (.seq (.reg [o1 26 (.mv 5),o1 27 (.mv 26),o3 28 (.mv 7) 27,o3 29 (.ld 4 true 2) 27,o3 30 (.call 27 [29]) 27,o3 31 (.bin .eql 28 30) 27,o1 32 (.pick 27 31 (.const (.bool false))),o1 33 (.mv 32),o3 34 (.mv 7) 33,o3 35 (.bin .eql 34 (ci 0)) 33,o3 36 (.mv 35) 33,o3 37 (.ld 4 true 6) 36,o3 38 (.ld 4 true 2) 36,o3 39 (.eqs false [(.int .i64),(.int .i64),(.int .i64),(.int .i64)] 37 38) 36,o3 40 (.pick 36 39 (.const (.bool false))) 33,o3 41 (.mv 40) 33,o4 42 (.mv 7) 41,o4 43 (.bin .neq 42 (ci 0)) 41,o4 44 (.mv 43) 41,o3 45 (.ld 4 true 6) 44,o3 46 (.build [(.int .i64 0),(.int .i64 0),(.int .i64 0),(.int .i64 0)] []) 44,o3 47 (.eqs false [(.int .i64),(.int .i64),(.int .i64),(.int .i64)] 45 46) 44,o4 48 (.pick 44 47 (.const (.bool false))) 41,o3 49 (.pick 41 (.const (.bool true)) 48) 33,o1 50 (.pick 33 49 (.const (.bool false))),o1 51 (.mv 50),o3 52 (.mv 9) 51,o3 53 (.bin .neq 52 (ci 0)) 51,o3 54 (.mv 53) 51,o3 55 (.ld 4 true 8) 54,o3 56 (.build [(.int .i64 0),(.int .i64 0),(.int .i64 0),(.int .i64 0)] []) 54,o3 57 (.eqs false [(.int .i64),(.int .i64),(.int .i64),(.int .i64)] 55 56) 54,o3 58 (.pick 54 57 (.const (.bool false))) 51,o3 59 (.mv 58) 51,o4 60 (.mv 9) 59,o4 61 (.bin .eql 60 (ci 0)) 59,o4 62 (.mv 61) 59,o3 63 (.ld 4 true 8) 62,o3 64 (.call 29 [63]) 62,o3 65 (.mv 1) 62,o3 66 (.call 19 [64,65]) 62,o4 67 (.pick 62 66 (.const (.bool false))) 59,o4 68 (.mv 67) 59,o3 69 (.ld 4 true 8) 68,o3 70 (.call 27 [69]) 68,o3 71 (.bin .eql 70 (ci 0)) 68,o4 72 (.pick 68 71 (.const (.bool false))) 59,o3 73 (.pick 59 (.const (.bool true)) 72) 51,o1 74 (.pick 51 73 (.const (.bool false))),o1 4 (.mv 74)]) .ret)))))),[(4,none)]⟩
theorem x9:xf Tryz.prog 9=some F9:=by kernel_rfl
theorem enc_len (x:Cal):(cEncode x).length=4:=rfl
theorem enc_take (x:Cal):List.take 4 ((cEncode x).map encI)=(cEncode x).map encI:=rfl
theorem con29k {k th v u:Int}:Con Tryz.prog 29 [.agg [.int .i64 k,.int .i64 th,.int .i64 v,.int .i64 u]] (.slm 1 4,[(1,some (.rows 3 1 ((cEncode ⟨k,th,v,u⟩).map encI)))],[]):=con29 (x:=⟨k,th,v,u⟩)
theorem con9 {k th v u:Int} {l:List Int} (hA:Con Tryz.prog 22 [] (.bool true,[],[])):Con Tryz.prog 9 [.agg [.int .i64 k,.int .i64 th,.int .i64 v,.int .i64 u],.slv 1 (l.map encI)] (.bool true,[],[]):=by
  by_cases hc:cCheck ⟨k,th,v,u⟩=0
  all_goals
    by_cases hd:(cDecode l).2=0
    · obtain ⟨d1,d2,d3⟩:=back_3 hd
      have d4:cCheck ⟨(cDecode l).1.k,(cDecode l).1.th,(cDecode l).1.v,(cDecode l).1.u⟩=0:=d2
      have d5:cEncode ⟨(cDecode l).1.k,(cDecode l).1.th,(cDecode l).1.v,(cDecode l).1.u⟩=l:=d1
      have d6:List.take 4 (l.map encI)=l.map encI:=List.take_of_length_le (by simp; omega)
      clear d1 d2
      refine mcb_of_vc mix x9 (by simp [F9]) fun hw _=>?_
      clear hw
      repeat' with_reducible first|refine gTn_of (fun h=>?_) (fun h=>?_)|refine gT_of (fun h=>?_) (fun h=>?_)|refine caseTn_of (fun h=>?_) (fun h=>?_)|refine caseT_of (fun h=>?_) (fun h=>?_)|refine FN ?_ ?_ ?_ ?_ rfl ?_|refine kv_ifn ?_ ?_|refine kv_if ?_ ?_|refine k_if ?_ ?_|refine IA ?_ ?_ ?_|refine L1 ?_ ?_|refine L2 ?_ ?_|refine L3 ?_ ?_ ?_ ?_|refine L4 ?_ ?_|refine L5 ?_ ?_ ?_ ?_ ?_|refine L6 ?_ ?_ ?_ ?_ ?_|refine AC.p0 hA ?_ (by simp -implicitDefEqProofs only [qU]; done) ?_ ?_|refine P0 con27 ?_ ?_ ?_|refine N1 con29k ?_ ?_|refine P0 con23 ?_ ?_ ?_|refine P0 (con19 ?_) ?_ ?_ ?_|refine AC.viewAll ?_ ?_ ?_|refine ACV.of con23 ?_ ?_ ?_|refine ACV.of (con19 ?_) ?_ ?_ ?_|simp -implicitDefEqProofs only [F9,qA,ld_0,ld_pv,st_0,splice,doEqs,qU,List.reduceReplicate,Nat.reduceAdd,Nat.reduceSub,Nat.reduceLeDiff,Nat.reduceEqDiff,Nat.reduceMul,reduceIte,reduceCtorEq,qI,Nat.reduceLT,Nat.reduceBEq,up_s,Int.toNat_natCast,encT,encCal,enc_len,enc_take,back_1,Int.reduceEq,Int.reduceNe,doConv,Int.natCast_zero, *]
      all_goals first
        | exact Wk.refl _
        | omega
        | (simp; done)
        | (refine Wk.of_eq ?_; simp_all; done)
        | (exfalso; clear hA; simp_all; done)
        | trace_state
    · have d1:=back_2 hd
      refine mcb_of_vc mix x9 (by simp [F9]) fun hw _=>?_
      clear hw
      repeat' with_reducible first|refine gTn_of (fun h=>?_) (fun h=>?_)|refine gT_of (fun h=>?_) (fun h=>?_)|refine caseTn_of (fun h=>?_) (fun h=>?_)|refine caseT_of (fun h=>?_) (fun h=>?_)|refine FN ?_ ?_ ?_ ?_ rfl ?_|refine kv_ifn ?_ ?_|refine kv_if ?_ ?_|refine k_if ?_ ?_|refine IA ?_ ?_ ?_|refine L1 ?_ ?_|refine L2 ?_ ?_|refine L3 ?_ ?_ ?_ ?_|refine L4 ?_ ?_|refine L5 ?_ ?_ ?_ ?_ ?_|refine L6 ?_ ?_ ?_ ?_ ?_|refine AC.p0 hA ?_ (by simp -implicitDefEqProofs only [qU]; done) ?_ ?_|refine P0 con27 ?_ ?_ ?_|refine N1 con29k ?_ ?_|refine P0 con23 ?_ ?_ ?_|refine P0 (con19 ?_) ?_ ?_ ?_|refine AC.viewAll ?_ ?_ ?_|refine ACV.of con23 ?_ ?_ ?_|refine ACV.of (con19 ?_) ?_ ?_ ?_|simp -implicitDefEqProofs only [F9,qA,ld_0,ld_pv,st_0,splice,doEqs,qU,List.reduceReplicate,Nat.reduceAdd,Nat.reduceSub,Nat.reduceLeDiff,Nat.reduceEqDiff,Nat.reduceMul,reduceIte,reduceCtorEq,qI,Nat.reduceLT,Nat.reduceBEq,up_s,Int.toNat_natCast,encT,encCal,enc_len,enc_take,back_1,Int.reduceEq,Int.reduceNe,doConv,Int.natCast_zero, *]
      all_goals first
        | exact Wk.refl _
        | omega
        | (simp; done)
        | (refine Wk.of_eq ?_; simp_all; done)
        | (exfalso; clear hA; simp_all; done)
        | trace_state

end Go.Sak
