/- Part S59 of the proofs about the program: K62, K63. Conditions: none. -/
import Derived.Test.YtccdhjhffebpoaaGreatS58
import Derived.Test.YtccdhjhffebpoaaGreatS46
import Derived.Test.YtccdhjhffebpoaaGreatS04
import Derived.Test.YtccdhjhffebpoaaGreatProg
import Derived.KernelRfl
import Derived.Test.YtccdhjhffebpoaaGreatS37
namespace Go.Sak
open Go Go.RowKit Go.Proofs
set_option linter.unusedVariables false
set_option linter.unusedSimpArgs false
set_option maxRecDepth 10000
set_option maxHeartbeats 8000000
def gInside (pc:Int):Bool:=decide (pc≥1) && decide (pc≤11)
def gNear (pc:Int):Int:=if pc=3 then 3 else if pc=4 then 2 else if pc=6 then 1 else 0
def F29:AFn:=⟨9,(.seq (.reg [o1 2 (.mv (.const (.bool false)))]) (.seq (.reg [o1 3 (.mv 0),o1 4 (.bin .geq 3 (ci 1)),o1 5 (.mv 4),o3 6 (.mv 0) 5,o3 7 (.bin .leq 6 (ci 11)) 5,o1 8 (.pick 5 7 (.const (.bool false))),o1 2 (.mv 8)]) .ret)),[(2,none)]⟩
theorem x29:xf Tryz.prog 29=some F29:=by kernel_rfl
theorem con29 {pc:Int}  : Con Tryz.prog 29 [.int .i64 pc] ((.bool (gInside pc)),[],[]):=by
  refine mcb_of_vc mix x29 (by simp [F29]) fun hw _=>?_
  simp only [wfs,AV.wf,inR_i64] at hw
  repeat' with_reducible first|refine gTn_of (fun h=>?_) (fun h=>?_)|refine gT_of (fun h=>?_) (fun h=>?_)|refine caseTn_of (fun h=>?_) (fun h=>?_)|refine caseT_of (fun h=>?_) (fun h=>?_)|refine fin_pure ?_ ?_ ?_ ?_|refine kv_ifn ?_ ?_|refine kv_if ?_ ?_|refine k_if ?_ ?_|simp -implicitDefEqProofs only [F29,qA,doLd,doSt,splice,doEqs,qU,List.reduceReplicate,Nat.reduceAdd,Nat.reduceSub,Nat.reduceLeDiff,Nat.reduceEqDiff,Nat.reduceMul,reduceIte,reduceCtorEq, *]
  all_goals first
    | (simp; done)
    | exact idxF_any
    | exact idxF_any.symm
    | grind [inR_i64,wrap64,maxLen_eq,gInside]

def F30:AFn:=⟨7,(.seq (.reg [o1 2 (.mv (ci 0))]) (.seq (.reg [o1 3 (.mkmap),o2 (.mupd 3 (ci 3) (ci 3)),o2 (.mupd 3 (ci 4) (ci 2)),o2 (.mupd 3 (ci 6) (ci 1)),o1 4 (.mv 3),o1 5 (.mv 0),o1 6 (.lkp (.int .i64 0) false 4 5),o1 2 (.mv 6)]) .ret)),[(2,none)]⟩
theorem x30:xf Tryz.prog 30=some F30:=by kernel_rfl
theorem con30 {pc:Int}:Con Tryz.prog 30 [.int .i64 pc] (.int .i64 (gNear pc),[],[]):=by
  by_cases k3:pc=3
  · subst k3
    refine mcb_of_vc mix x30 (by simp [F30]) fun hw _=>?_
    repeat' with_reducible first|refine gTn_of (fun h=>?_) (fun h=>?_)|refine gT_of (fun h=>?_) (fun h=>?_)|refine caseTn_of (fun h=>?_) (fun h=>?_)|refine caseT_of (fun h=>?_) (fun h=>?_)|refine fin_pure ?_ ?_ ?_ ?_|refine kv_ifn ?_ ?_|refine kv_if ?_ ?_|refine k_if ?_ ?_|refine L1 ?_ ?_|refine L2 ?_ ?_|refine L3 ?_ ?_ ?_ ?_|refine L4 ?_ ?_|refine L5 ?_ ?_ ?_ ?_ ?_|refine L6 ?_ ?_ ?_ ?_ ?_|simp -implicitDefEqProofs only [F30,qA,ld_0,ld_pv,st_0,splice,doEqs,qU,List.reduceReplicate,Nat.reduceAdd,Nat.reduceSub,Nat.reduceLeDiff,Nat.reduceEqDiff,Nat.reduceMul,reduceIte,reduceCtorEq,qI,Nat.reduceLT,Nat.reduceBEq,doLkp,mfind,keyEq,AV.isInt,doMupd,Blk.inN,Blk.nms,List.flatMap_cons,List.flatMap_nil,Int.reduceEq, *]
    all_goals first
      | rfl
      | (simp; done)
      | trace_state
  · by_cases k4:pc=4
    · subst k4
      refine mcb_of_vc mix x30 (by simp [F30]) fun hw _=>?_
      repeat' with_reducible first|refine gTn_of (fun h=>?_) (fun h=>?_)|refine gT_of (fun h=>?_) (fun h=>?_)|refine caseTn_of (fun h=>?_) (fun h=>?_)|refine caseT_of (fun h=>?_) (fun h=>?_)|refine fin_pure ?_ ?_ ?_ ?_|refine kv_ifn ?_ ?_|refine kv_if ?_ ?_|refine k_if ?_ ?_|refine L1 ?_ ?_|refine L2 ?_ ?_|refine L3 ?_ ?_ ?_ ?_|refine L4 ?_ ?_|refine L5 ?_ ?_ ?_ ?_ ?_|refine L6 ?_ ?_ ?_ ?_ ?_|simp -implicitDefEqProofs only [F30,qA,ld_0,ld_pv,st_0,splice,doEqs,qU,List.reduceReplicate,Nat.reduceAdd,Nat.reduceSub,Nat.reduceLeDiff,Nat.reduceEqDiff,Nat.reduceMul,reduceIte,reduceCtorEq,qI,Nat.reduceLT,Nat.reduceBEq,doLkp,mfind,keyEq,AV.isInt,doMupd,Blk.inN,Blk.nms,List.flatMap_cons,List.flatMap_nil,Int.reduceEq, *]
      all_goals first
        | rfl
        | (simp; done)
        | trace_state
    · by_cases k6:pc=6
      · subst k6
        refine mcb_of_vc mix x30 (by simp [F30]) fun hw _=>?_
        repeat' with_reducible first|refine gTn_of (fun h=>?_) (fun h=>?_)|refine gT_of (fun h=>?_) (fun h=>?_)|refine caseTn_of (fun h=>?_) (fun h=>?_)|refine caseT_of (fun h=>?_) (fun h=>?_)|refine fin_pure ?_ ?_ ?_ ?_|refine kv_ifn ?_ ?_|refine kv_if ?_ ?_|refine k_if ?_ ?_|refine L1 ?_ ?_|refine L2 ?_ ?_|refine L3 ?_ ?_ ?_ ?_|refine L4 ?_ ?_|refine L5 ?_ ?_ ?_ ?_ ?_|refine L6 ?_ ?_ ?_ ?_ ?_|simp -implicitDefEqProofs only [F30,qA,ld_0,ld_pv,st_0,splice,doEqs,qU,List.reduceReplicate,Nat.reduceAdd,Nat.reduceSub,Nat.reduceLeDiff,Nat.reduceEqDiff,Nat.reduceMul,reduceIte,reduceCtorEq,qI,Nat.reduceLT,Nat.reduceBEq,doLkp,mfind,keyEq,AV.isInt,doMupd,Blk.inN,Blk.nms,List.flatMap_cons,List.flatMap_nil,Int.reduceEq, *]
        all_goals first
          | rfl
          | (simp; done)
          | trace_state
      · have h3:(pc=3)=False:=by simp [k3]
        have h4:(pc=4)=False:=by simp [k4]
        have h6:(pc=6)=False:=by simp [k6]
        have h3s:(3=pc)=False:=by simp; omega
        have h4s:(4=pc)=False:=by simp; omega
        have h6s:(6=pc)=False:=by simp; omega
        rw [show gNear pc=0 from by unfold gNear; rw [if_neg k3,if_neg k4,if_neg k6]]
        refine mcb_of_vc mix x30 (by simp [F30]) fun hw _=>?_
        repeat' with_reducible first|refine gTn_of (fun h=>?_) (fun h=>?_)|refine gT_of (fun h=>?_) (fun h=>?_)|refine caseTn_of (fun h=>?_) (fun h=>?_)|refine caseT_of (fun h=>?_) (fun h=>?_)|refine fin_pure ?_ ?_ ?_ ?_|refine kv_ifn ?_ ?_|refine kv_if ?_ ?_|refine k_if ?_ ?_|refine L1 ?_ ?_|refine L2 ?_ ?_|refine L3 ?_ ?_ ?_ ?_|refine L4 ?_ ?_|refine L5 ?_ ?_ ?_ ?_ ?_|refine L6 ?_ ?_ ?_ ?_ ?_|simp -implicitDefEqProofs only [F30,qA,ld_0,ld_pv,st_0,splice,doEqs,qU,List.reduceReplicate,Nat.reduceAdd,Nat.reduceSub,Nat.reduceLeDiff,Nat.reduceEqDiff,Nat.reduceMul,reduceIte,reduceCtorEq,qI,Nat.reduceLT,Nat.reduceBEq,doLkp,mfind,keyEq,AV.isInt,doMupd,Blk.inN,Blk.nms,List.flatMap_cons,List.flatMap_nil,Int.reduceEq,h3,h4,h6,h3s,h4s,h6s, *]
        all_goals first
          | (simp; done)
          | trace_state

def F85:AFn:=⟨40,(.seq (.reg [o1 2 (.box 23 0),o1 4 (.alloc 33 [(.int .i64 0),(.int .i64 0),(.int .i64 0),(.int .i64 0),(.int .i64 0),(.int .i64 0),(.bool false),(.int .i64 0),(.int .i64 0),(.int .i64 0),.slnil,.slnil,.slnil,(.int .i64 0),.slnil,(.int .i64 0),.slnil,(.int .i64 0),.slnil,.slnil]),o1 5 (.mv (.const (.bool false)))]) (.seq (.reg [o1 14 (.ld 7 true 2),o1 15 (.call 47 [14]),o1 13 (.mv 15),o1 16 (.ext 13 0),o1 17 (.ext 13 1),o1 6 (.alloc 33 [(.int .i64 0),(.int .i64 0),(.int .i64 0),(.int .i64 0),(.int .i64 0),(.int .i64 0),(.bool false),(.int .i64 0),(.int .i64 0),(.int .i64 0),.slnil,.slnil,.slnil,(.int .i64 0),.slnil,(.int .i64 0),.slnil,(.int .i64 0),.slnil,.slnil]),o2 (.st 20 6 16),o1 7 (.mv 17)]) (.seq (.seq (.reg [o1 18 (.mv 7),o1 19 (.bin .neq 18 (ci 0))]) (.cond 19 (.seq (.reg [o1 20 (.ld 20 true 6),o2 (.st 20 4 20),o1 5 (.mv (.const (.bool false)))]) .ret) .skip)) (.seq (.seq (.reg [o1 8 (.mv (ci 0))]) (.block 0 (.loop (.seq (.seq (.reg [o1 21 (.mv 8),o1 22 (.mv 1),o1 23 (.bin .lss 21 22)]) (.cond 23 .skip (.exit 0))) (.seq (.block 1 (.seq (.reg [o1 27 (.ld 20 true 6),o1 28 (.mv 8),o1 29 (.bin .add (ci 10) 28),o1 30 (.call 48 [27,(ci 0),(ci 1),29,(ci 0)]),o1 26 (.mv 30),o1 31 (.ext 26 0),o1 32 (.ext 26 1),o1 9 (.alloc 33 [(.int .i64 0),(.int .i64 0),(.int .i64 0),(.int .i64 0),(.int .i64 0),(.int .i64 0),(.bool false),(.int .i64 0),(.int .i64 0),(.int .i64 0),.slnil,.slnil,.slnil,(.int .i64 0),.slnil,(.int .i64 0),.slnil,(.int .i64 0),.slnil,.slnil]),o2 (.st 20 9 31),o1 10 (.mv 32)]) (.seq (.reg [o1 34 (.ld 20 true 9),o1 35 (.call 17 [34,(ci 0),(ci 100)]),o1 33 (.mv 35),o1 36 (.ext 33 0),o1 37 (.ext 33 1),o1 11 (.alloc 33 [(.int .i64 0),(.int .i64 0),(.int .i64 0),(.int .i64 0),(.int .i64 0),(.int .i64 0),(.bool false),(.int .i64 0),(.int .i64 0),(.int .i64 0),.slnil,.slnil,.slnil,(.int .i64 0),.slnil,(.int .i64 0),.slnil,(.int .i64 0),.slnil,.slnil]),o2 (.st 20 11 36),o1 12 (.mv 37)]) (.reg [o1 38 (.ld 20 true 11),o2 (.st 20 6 38)])))) (.reg [o1 24 (.mv 8),o1 25 (.bin .add 24 (ci 1)),o1 8 (.mv 25)])))))) (.seq (.reg [o1 39 (.ld 20 true 6),o2 (.st 20 4 39),o1 5 (.mv (.const (.bool true)))]) .ret))))),[(4,some (20,true)),(5,none)]⟩
theorem x85:xf Tryz.prog 85=some F85:=by kernel_rfl
theorem con85 {c:Config} {n:Nat} (hok:confOk c=true) (hn:(n:Int)≤confRoom c):Con Tryz.prog 85 [.agg (encC c),.int .i64 n] (.tup [.agg (encZ (fillS c 10 n)),.bool true],[],[]):=by
  have hr:=room_of hok
  have hnew:=fill_new (b:=10) hok
  have hb:=fill_bd (b:=10) (n:=0) hok (by simp; omega)
  refine mcb_of_vc mix x85 (by simp [F85]) fun hw _=>?_
  clear hw
  repeat' with_reducible first|refine gTn_of (fun h=>?_) (fun h=>?_)|refine gT_of (fun h=>?_) (fun h=>?_)|refine caseTn_of (fun h=>?_) (fun h=>?_)|refine caseT_of (fun h=>?_) (fun h=>?_)|refine FN ?_ ?_ ?_ ?_ rfl ?_|refine kv_ifn ?_ ?_|refine kv_if ?_ ?_|refine k_if ?_ ?_|refine IA ?_ ?_ ?_|refine L1 ?_ ?_|refine L2 ?_ ?_|refine L3 ?_ ?_ ?_ ?_|refine L4 ?_ ?_|refine L5 ?_ ?_ ?_ ?_ ?_|refine L6 ?_ ?_ ?_ ?_ ?_|refine AC.p0 (con47s ) ?_ (by simp -implicitDefEqProofs only [qU,pure_encZ,pure_encQ,pure_encC]; done) ?_ ?_|refine AC.p0 (con48s ?_) ?_ (by simp -implicitDefEqProofs only [qU,pure_encZ,pure_encQ,pure_encC]; done) ?_ ?_|refine AC.p0 (con17 ?_) ?_ (by simp -implicitDefEqProofs only [qU,pure_encZ,pure_encQ,pure_encC]; done) ?_ ?_|simp -implicitDefEqProofs only [F85,qA,ld_0,ld_pv,st_0,splice,doEqs,qU,List.reduceReplicate,Nat.reduceAdd,Nat.reduceSub,Nat.reduceLeDiff,Nat.reduceEqDiff,Nat.reduceMul,reduceIte,reduceCtorEq,qI,Nat.reduceLT,Nat.reduceBEq,up_s,Int.toNat_natCast,encT,qZ,nl_s,nl_0,qC,qT,qCf,lm_normal,lm_exit,lm_ret,Int.natCast_zero,Int.reduceEq,Int.reduceNe, *]
  all_goals first
    | refine lm_of 5 (fun i:Nat=>nl 1 (some (.int .i64 n) :: nl 2 (some (.ptr 2 0 0) :: nl 1 (some (.ptr 3 0 0) :: nl 1 (some (.int .i64 i) :: nl 31 []))))) (fun i=>[(2,.rows 33 20 [[(.int .i64 0),(.int .i64 0),(.int .i64 0),(.int .i64 0),(.int .i64 0),(.int .i64 0),(.bool false),(.int .i64 0),(.int .i64 0),(.int .i64 0),.slnil,.slnil,.slnil,(.int .i64 0),.slnil,(.int .i64 0),.slnil,(.int .i64 0),.slnil,.slnil]]),(3,.rows 33 20 [encZ (fillS c 10 i)])]) (fun i=>i≤n) (fun i=>n - i) [] [(17,2),(129,3)] 0 (by omega) ?_ ?_ ?_ ?_ ?_ ?_
    | trace_state
  rotate_right
  · intro i hi
    clear hnew hb
    have hb0:=fill_bd (b:=10) (n:=i) hok (by omega)
    have hb1:=put_bd (id:=0) (t:=t0 1 (10+i) 0) hb0
    rcases Nat.lt_or_eq_of_le hi with hlt | rfl
    · have hd:((i:Int)<(n:Int))=True:=by simp; omega
      have e1:=fill_invoke (b:=10) (n:=i) (id:=0) (v:=10+i) hok (by omega) (by omega) (by omega) (.inl rfl)
      have e2:=fill_steps (b:=10) (n:=i) hok (by omega)
      have hw10:IntKind.wrap .i64 (10+(i:Int))=10+(i:Int):=wrap64 (by omega) (by omega)
      have hwi:IntKind.wrap .i64 ((i:Int)+1)=((i+1:Nat):Int):=by rw [wrap64 (by omega) (by omega)]; omega
      simp only [all_some,all_none,all_nil,nl_s,nl_0]
      intros
      repeat' with_reducible first|refine gTn_of (fun h=>?_) (fun h=>?_)|refine gT_of (fun h=>?_) (fun h=>?_)|refine caseTn_of (fun h=>?_) (fun h=>?_)|refine caseT_of (fun h=>?_) (fun h=>?_)|refine FN ?_ ?_ ?_ ?_ rfl ?_|refine kv_ifn ?_ ?_|refine kv_if ?_ ?_|refine k_if ?_ ?_|refine IA ?_ ?_ ?_|refine L1 ?_ ?_|refine L2 ?_ ?_|refine L3 ?_ ?_ ?_ ?_|refine L4 ?_ ?_|refine L5 ?_ ?_ ?_ ?_ ?_|refine L6 ?_ ?_ ?_ ?_ ?_|refine AC.p0 (con47s ) ?_ (by simp -implicitDefEqProofs only [qU,pure_encZ,pure_encQ,pure_encC]; done) ?_ ?_|refine AC.p0 (con48s ?_) ?_ (by simp -implicitDefEqProofs only [qU,pure_encZ,pure_encQ,pure_encC]; done) ?_ ?_|refine AC.p0 (con17 ?_) ?_ (by simp -implicitDefEqProofs only [qU,pure_encZ,pure_encQ,pure_encC]; done) ?_ ?_|refine rm_of [] [(2,2),(3,3)] (i+1) ?_ ?_ ?_ ?_ ?_ ?_|simp -implicitDefEqProofs only [F85,qA,ld_0,ld_pv,st_0,splice,doEqs,qU,List.reduceReplicate,Nat.reduceAdd,Nat.reduceSub,Nat.reduceLeDiff,Nat.reduceEqDiff,Nat.reduceMul,reduceIte,reduceCtorEq,qI,Nat.reduceLT,Nat.reduceBEq,up_s,Int.toNat_natCast,encT,qZ,nl_s,nl_0,qC,qT,qCf,lm_normal,lm_exit,lm_ret,Int.natCast_zero,Int.reduceEq,Int.reduceNe, *]
      all_goals first
        | exact bdP hb0 (by omega)
        | exact bdP hb1 (by omega)
        | omega
        | trace_state
    · have hd:((i:Int)<(i:Int))=False:=by simp
      simp only [all_some,all_none,all_nil,nl_s,nl_0]
      intros
      repeat' with_reducible first|refine gTn_of (fun h=>?_) (fun h=>?_)|refine gT_of (fun h=>?_) (fun h=>?_)|refine caseTn_of (fun h=>?_) (fun h=>?_)|refine caseT_of (fun h=>?_) (fun h=>?_)|refine FN ?_ ?_ ?_ ?_ rfl ?_|refine kv_ifn ?_ ?_|refine kv_if ?_ ?_|refine k_if ?_ ?_|refine IA ?_ ?_ ?_|refine L1 ?_ ?_|refine L2 ?_ ?_|refine L3 ?_ ?_ ?_ ?_|refine L4 ?_ ?_|refine L5 ?_ ?_ ?_ ?_ ?_|refine L6 ?_ ?_ ?_ ?_ ?_|refine AC.p0 (con47s ) ?_ (by simp -implicitDefEqProofs only [qU,pure_encZ,pure_encQ,pure_encC]; done) ?_ ?_|refine AC.p0 (con48s ?_) ?_ (by simp -implicitDefEqProofs only [qU,pure_encZ,pure_encQ,pure_encC]; done) ?_ ?_|refine AC.p0 (con17 ?_) ?_ (by simp -implicitDefEqProofs only [qU,pure_encZ,pure_encQ,pure_encC]; done) ?_ ?_|refine rm_of [] [(2,2),(3,3)] (i+1) ?_ ?_ ?_ ?_ ?_ ?_|simp -implicitDefEqProofs only [F85,qA,ld_0,ld_pv,st_0,splice,doEqs,qU,List.reduceReplicate,Nat.reduceAdd,Nat.reduceSub,Nat.reduceLeDiff,Nat.reduceEqDiff,Nat.reduceMul,reduceIte,reduceCtorEq,qI,Nat.reduceLT,Nat.reduceBEq,up_s,Int.toNat_natCast,encT,qZ,nl_s,nl_0,qC,qT,qCf,lm_normal,lm_exit,lm_ret,Int.natCast_zero,Int.reduceEq,Int.reduceNe, *]
      all_goals first
        | exact Wk.refl _
        | omega
        | trace_state
  all_goals first
    | omega
    | (simp -implicitDefEqProofs only [qA,ld_0,ld_pv,st_0,splice,doEqs,qU,List.reduceReplicate,Nat.reduceAdd,Nat.reduceSub,Nat.reduceLeDiff,Nat.reduceEqDiff,Nat.reduceMul,reduceIte,reduceCtorEq,qI,Nat.reduceLT,Nat.reduceBEq,qZ,nl_s,nl_0,qCf]; first | done | (simp; done))
    | trace_state
def SB0:State:=⟨⟨1,2,0,0,0,0,false⟩,⟨0,1,0⟩,[⟨0,10⟩,⟨1,0⟩],[],[],⟨0,[]⟩,⟨1,[]⟩,0,[⟨0,1,10,0,0,0,0,0,false,1,0⟩,⟨0,0,0,0,0,0,0,0,false,0,0⟩],[⟨0,1,10,1,0⟩]⟩
def SB1:State:=⟨⟨1,2,0,0,0,0,false⟩,⟨0,1,0⟩,[⟨0,10⟩,⟨1,0⟩],[],[],⟨0,[]⟩,⟨1,[]⟩,0,[⟨0,1,10,0,0,0,0,0,false,1,0⟩,⟨1,4,0,0,0,0,0,0,false,0,0⟩],[⟨0,1,10,1,0⟩]⟩
def SB2:State:=⟨⟨1,2,0,0,0,0,false⟩,⟨1,1,0⟩,[⟨2,10⟩,⟨1,0⟩],[],[],⟨1,[]⟩,⟨1,[]⟩,0,[⟨0,1,10,0,0,0,0,0,false,1,0⟩,⟨0,4,0,0,0,0,0,0,false,1,10⟩],[⟨0,1,10,1,0⟩,⟨1,4,0,1,10⟩]⟩
def SB3:State:=⟨⟨1,2,0,0,0,0,false⟩,⟨1,1,0⟩,[⟨0,10⟩,⟨1,0⟩],[],[1],⟨0,[]⟩,⟨1,[]⟩,0,[⟨0,1,10,0,0,0,0,0,false,1,0⟩,⟨1,4,0,0,4,0,0,0,false,1,10⟩],[⟨0,1,10,1,0⟩,⟨1,4,0,1,10⟩]⟩
def SB4:State:=⟨⟨1,2,0,0,0,0,false⟩,⟨1,1,0⟩,[⟨2,10⟩,⟨1,0⟩],[],[],⟨1,[]⟩,⟨1,[]⟩,0,[⟨1,5,0,0,0,0,0,0,false,0,0⟩,⟨0,4,0,0,0,0,0,0,false,1,10⟩],[⟨0,1,10,1,0⟩,⟨1,4,0,1,10⟩]⟩
def SB5:State:=⟨⟨1,2,0,0,0,0,false⟩,⟨1,1,0⟩,[⟨2,10⟩,⟨1,0⟩],[],[],⟨1,[]⟩,⟨1,[]⟩,0,[⟨0,5,0,0,0,0,0,0,false,4,0⟩,⟨0,4,0,0,0,0,0,0,false,1,10⟩],[⟨0,1,10,1,0⟩,⟨1,4,0,1,10⟩,⟨0,5,0,4,0⟩]⟩
set_option linter.defProp false
def qB:=And.intro (And.intro (show (encZ SB2)[18]?=some (.slv 11 [[.int .i64 0,.int .i64 1,.int .i64 10,.int .i64 0,.int .i64 0,.int .i64 0,.int .i64 0,.int .i64 0,.bool false,.int .i64 1,.int .i64 0],[.int .i64 0,.int .i64 4,.int .i64 0,.int .i64 0,.int .i64 0,.int .i64 0,.int .i64 0,.int .i64 0,.bool false,.int .i64 1,.int .i64 10]]) from rfl) (show (encZ SB3)[18]?=some (.slv 11 [[.int .i64 0,.int .i64 1,.int .i64 10,.int .i64 0,.int .i64 0,.int .i64 0,.int .i64 0,.int .i64 0,.bool false,.int .i64 1,.int .i64 0],[.int .i64 1,.int .i64 4,.int .i64 0,.int .i64 0,.int .i64 4,.int .i64 0,.int .i64 0,.int .i64 0,.bool false,.int .i64 1,.int .i64 10]]) from rfl)) (And.intro (show (encZ SB5)[18]?=some (.slv 11 [[.int .i64 0,.int .i64 5,.int .i64 0,.int .i64 0,.int .i64 0,.int .i64 0,.int .i64 0,.int .i64 0,.bool false,.int .i64 4,.int .i64 0],[.int .i64 0,.int .i64 4,.int .i64 0,.int .i64 0,.int .i64 0,.int .i64 0,.int .i64 0,.int .i64 0,.bool false,.int .i64 1,.int .i64 10]]) from rfl) (And.intro (show (encZ SB2)[19]?=some (.slv 5 [[.int .i64 0,.int .i64 1,.int .i64 10,.int .i64 1,.int .i64 0],[.int .i64 1,.int .i64 4,.int .i64 0,.int .i64 1,.int .i64 10]]) from rfl) (show ((encZ SB2).drop 7).take 3=[.int .i64 1,.int .i64 1,.int .i64 0] from rfl)))
def qB2:=And.intro (And.intro (show gInside 1=true from rfl) (And.intro (show gInside 0=false from rfl) (show gNear 3=3 from rfl))) (And.intro (And.intro (show gNear 6=1 from rfl) (show gNear 9=0 from rfl)) (And.intro (show ((1:Nat):Int)=1 from rfl) (show ((2:Nat):Int)=2 from rfl)))
theorem bw0:fillS ⟨1,2,0,0,0,0,false⟩ 10 1=SB0:=by decide +kernel
theorem bw1:fabInvoke SB0 1 4 0 0=(SB1,0):=by decide +kernel
theorem bw2:gSteps SB1 1 100=(SB2,7):=by decide +kernel
theorem bw3:gSteps SB1 1 4=(SB3,4):=by decide +kernel
theorem bw4:fabInvoke SB2 0 5 0 0=(SB4,0):=by decide +kernel
theorem bw5:gSteps SB4 0 100=(SB5,4):=by decide +kernel
theorem conB85:Con Tryz.prog 85 [.agg [.int .i64 1,.int .i64 2,.int .i64 0,.int .i64 0,.int .i64 0,.int .i64 0,.bool false],.int .i64 1] (.tup [.agg (encZ SB0),.bool true],[],[]):=by
  have:=con85 (c:=⟨1,2,0,0,0,0,false⟩) (n:=1) (by decide) (by decide)
  rw [bw0] at this; exact this
theorem conB48a:Con Tryz.prog 48 [.agg (encZ SB0),.int .i64 1,.int .i64 4,.int .i64 0,.int .i64 0] (.tup [.agg (encZ SB1),.int .i64 0],[],[]):=by
  have:=con48s (s:=SB0) (id:=1) (kind:=4) (val:=0) (untl:=0) (by unfold Bd; decide)
  rw [bw1] at this; exact this
theorem conB48b:Con Tryz.prog 48 [.agg (encZ SB2),.int .i64 0,.int .i64 5,.int .i64 0,.int .i64 0] (.tup [.agg (encZ SB4),.int .i64 0],[],[]):=by
  have:=con48s (s:=SB2) (id:=0) (kind:=5) (val:=0) (untl:=0) (by unfold Bd; decide)
  rw [bw4] at this; exact this
theorem conB25a:Con Tryz.prog 25 [.agg (encZ SB1),.int .i64 1,.int .i64 100] (.tup [.agg (encZ SB2),.int .i64 7],[],[]):=by
  have:=con25 (s:=SB1) (id:=1) (m:=100) (by unfold Bd; decide)
  rw [bw2] at this; exact this
theorem conB25b:Con Tryz.prog 25 [.agg (encZ SB1),.int .i64 1,.int .i64 4] (.tup [.agg (encZ SB3),.int .i64 4],[],[]):=by
  have:=con25 (s:=SB1) (id:=1) (m:=4) (by unfold Bd; decide)
  rw [bw3] at this; exact this
theorem conB25c:Con Tryz.prog 25 [.agg (encZ SB4),.int .i64 0,.int .i64 100] (.tup [.agg (encZ SB5),.int .i64 4],[],[]):=by
  have:=con25 (s:=SB4) (id:=0) (m:=100) (by unfold Bd; decide)
  rw [bw5] at this; exact this
def F24:AFn:=⟨141,(.seq (.reg [o1 0 (.mv (.const (.bool false)))]) (.seq (.reg [o1 12 (.build [(.int .i64 0),(.int .i64 0),(.int .i64 0),(.int .i64 0),(.int .i64 0),(.int .i64 0),(.bool false)] [(0,1,(ci 1)),(1,1,(ci 2))]),o1 13 (.call 85 [12,(ci 1)]),o1 11 (.mv 13),o1 14 (.ext 11 0),o1 15 (.ext 11 1),o1 1 (.alloc 33 [(.int .i64 0),(.int .i64 0),(.int .i64 0),(.int .i64 0),(.int .i64 0),(.int .i64 0),(.bool false),(.int .i64 0),(.int .i64 0),(.int .i64 0),.slnil,.slnil,.slnil,(.int .i64 0),.slnil,(.int .i64 0),.slnil,(.int .i64 0),.slnil,.slnil]),o2 (.st 20 1 14),o1 2 (.mv 15)]) (.seq (.reg [o1 17 (.ld 20 true 1),o1 18 (.call 48 [17,(ci 1),(ci 4),(ci 0),(ci 0)]),o1 16 (.mv 18),o1 19 (.ext 16 0),o1 20 (.ext 16 1),o2 (.st 20 1 19)]) (.seq (.reg [o1 22 (.ld 20 true 1),o1 23 (.call 25 [22,(ci 1),(ci 100)]),o1 21 (.mv 23),o1 24 (.ext 21 0),o1 25 (.ext 21 1),o1 3 (.alloc 33 [(.int .i64 0),(.int .i64 0),(.int .i64 0),(.int .i64 0),(.int .i64 0),(.int .i64 0),(.bool false),(.int .i64 0),(.int .i64 0),(.int .i64 0),.slnil,.slnil,.slnil,(.int .i64 0),.slnil,(.int .i64 0),.slnil,(.int .i64 0),.slnil,.slnil]),o2 (.st 20 3 24),o1 4 (.mv 25)]) (.seq (.reg [o1 27 (.ld 20 true 1),o1 28 (.call 25 [27,(ci 1),(ci 4)]),o1 26 (.mv 28),o1 29 (.ext 26 0),o1 30 (.ext 26 1),o1 5 (.alloc 33 [(.int .i64 0),(.int .i64 0),(.int .i64 0),(.int .i64 0),(.int .i64 0),(.int .i64 0),(.bool false),(.int .i64 0),(.int .i64 0),(.int .i64 0),.slnil,.slnil,.slnil,(.int .i64 0),.slnil,(.int .i64 0),.slnil,(.int .i64 0),.slnil,.slnil]),o2 (.st 20 5 29),o1 6 (.mv 30)]) (.seq (.reg [o1 32 (.ld 20 true 3),o1 33 (.call 48 [32,(ci 0),(ci 5),(ci 0),(ci 0)]),o1 31 (.mv 33),o1 34 (.ext 31 0),o1 35 (.ext 31 1),o1 7 (.alloc 33 [(.int .i64 0),(.int .i64 0),(.int .i64 0),(.int .i64 0),(.int .i64 0),(.int .i64 0),(.bool false),(.int .i64 0),(.int .i64 0),(.int .i64 0),.slnil,.slnil,.slnil,(.int .i64 0),.slnil,(.int .i64 0),.slnil,(.int .i64 0),.slnil,.slnil]),o2 (.st 20 7 34),o1 8 (.mv 35)]) (.seq (.reg [o1 37 (.ld 20 true 7),o1 38 (.call 25 [37,(ci 0),(ci 100)]),o1 36 (.mv 38),o1 39 (.ext 36 0),o1 40 (.ext 36 1),o1 9 (.alloc 33 [(.int .i64 0),(.int .i64 0),(.int .i64 0),(.int .i64 0),(.int .i64 0),(.int .i64 0),(.bool false),(.int .i64 0),(.int .i64 0),(.int .i64 0),.slnil,.slnil,.slnil,(.int .i64 0),.slnil,(.int .i64 0),.slnil,(.int .i64 0),.slnil,.slnil]),o2 (.st 20 9 39),o1 10 (.mv 40)]) (.seq (.seq (.reg [o1 41 (.faddr 18 3),o1 42 (.ld 1 false 41),o1 43 (.len 42),o1 44 (.bin .neq 43 (ci 2)),o1 45 (.mv 44),o4 46 (.faddr 18 5) 45,o4 47 (.ld 1 false 46) 45,o4 48 (.len 47) 45,o4 49 (.bin .neq 48 (ci 2)) 45,o1 50 (.pick 45 (.const (.bool true)) 49),o1 51 (.mv 50),o4 52 (.faddr 18 9) 51,o4 53 (.ld 1 false 52) 51,o4 54 (.len 53) 51,o4 55 (.bin .neq 54 (ci 2)) 51,o1 56 (.pick 51 (.const (.bool true)) 55),o1 57 (.mv 56),o4 58 (.faddr 19 3) 57,o4 59 (.ld 1 false 58) 57,o4 60 (.len 59) 57,o4 61 (.bin .neq 60 (ci 2)) 57,o1 62 (.pick 57 (.const (.bool true)) 61)]) (.cond 62 (.seq (.reg [o1 0 (.mv (.const (.bool false)))]) .ret) .skip)) (.seq (.reg [o1 63 (.mv 2),o1 64 (.mv 63),o3 65 (.mv 4) 64,o3 66 (.bin .eql 65 (ci 7)) 64,o1 67 (.pick 64 66 (.const (.bool false))),o1 68 (.mv 67),o3 69 (.faddr 18 3) 68,o3 70 (.ld 1 false 69) 68,o3 71 (.iaddr 11 70 (ci 1)) 68,o3 72 (.faddr 9 71) 68,o3 73 (.ld 1 false 72) 68,o3 74 (.bin .eql 73 (ci 1)) 68,o1 75 (.pick 68 74 (.const (.bool false))),o1 76 (.mv 75),o3 77 (.faddr 18 3) 76,o3 78 (.ld 1 false 77) 76,o3 79 (.iaddr 11 78 (ci 1)) 76,o3 80 (.faddr 10 79) 76,o3 81 (.ld 1 false 80) 76,o3 82 (.bin .eql 81 (ci 10)) 76,o1 83 (.pick 76 82 (.const (.bool false))),o1 84 (.mv 83),o3 85 (.faddr 7 3) 84,o3 86 (.ld 3 true 85) 84,o3 87 (.build [(.int .i64 0),(.int .i64 0),(.int .i64 0)] [(0,1,(ci 1)),(1,1,(ci 1))]) 84,o3 88 (.eqs false [(.int .i64),(.int .i64),(.int .i64)] 86 87) 84,o1 89 (.pick 84 88 (.const (.bool false))),o1 90 (.mv 89),o3 91 (.faddr 19 3) 90,o3 92 (.ld 1 false 91) 90,o3 93 (.iaddr 5 92 (ci 1)) 90,o3 94 (.ld 5 true 93) 90,o3 95 (.build [(.int .i64 0),(.int .i64 0),(.int .i64 0),(.int .i64 0),(.int .i64 0)] [(0,1,(ci 1)),(1,1,(ci 4)),(3,1,(ci 1)),(4,1,(ci 10))]) 90,o3 96 (.eqs false [(.int .i64),(.int .i64),(.int .i64),(.int .i64),(.int .i64)] 94 95) 90,o1 97 (.pick 90 96 (.const (.bool false))),o1 98 (.mv 97),o3 99 (.mv 6) 98,o3 100 (.bin .eql 99 (ci 4)) 98,o1 101 (.pick 98 100 (.const (.bool false))),o1 102 (.mv 101),o3 103 (.faddr 18 5) 102,o3 104 (.ld 1 false 103) 102,o3 105 (.iaddr 11 104 (ci 1)) 102,o3 106 (.faddr 4 105) 102,o3 107 (.ld 1 false 106) 102,o3 108 (.bin .eql 107 (ci 4)) 102,o1 109 (.pick 102 108 (.const (.bool false))),o1 110 (.mv 109),o3 111 (.mv 10) 110,o3 112 (.bin .eql 111 (ci 4)) 110,o1 113 (.pick 110 112 (.const (.bool false))),o1 114 (.mv 113),o3 115 (.faddr 18 9) 114,o3 116 (.ld 1 false 115) 114,o3 117 (.iaddr 11 116 (ci 0)) 114,o3 118 (.faddr 9 117) 114,o3 119 (.ld 1 false 118) 114,o3 120 (.bin .eql 119 (ci 4)) 114,o1 121 (.pick 114 120 (.const (.bool false))),o1 122 (.mv 121),o3 123 (.call 29 [(ci 1)]) 122,o1 124 (.pick 122 123 (.const (.bool false))),o1 125 (.mv 124),o3 126 (.call 29 [(ci 0)]) 125,o3 127 (.not 126) 125,o1 128 (.pick 125 127 (.const (.bool false))),o1 129 (.mv 128),o3 130 (.call 30 [(ci 3)]) 129,o3 131 (.bin .eql 130 (ci 3)) 129,o1 132 (.pick 129 131 (.const (.bool false))),o1 133 (.mv 132),o3 134 (.call 30 [(ci 6)]) 133,o3 135 (.bin .eql 134 (ci 1)) 133,o1 136 (.pick 133 135 (.const (.bool false))),o1 137 (.mv 136),o3 138 (.call 30 [(ci 9)]) 137,o3 139 (.bin .eql 138 (ci 0)) 137,o1 140 (.pick 137 139 (.const (.bool false))),o1 0 (.mv (.tmp 140))]) .ret))))))))),[(0,none)]⟩
theorem x24:xf Tryz.prog 24=some F24:=by kernel_rfl
theorem ia_lit1 {f:Nat→Option Blk} {sz:Nat} {r r1:List AV} {rows:List (List AV)}:doIaddr f sz (.slv sz (r :: r1 :: rows)) (.int .i64 1)=some { v:=.pv r1 }:=by
  simp [doIaddr]; omega
theorem con24:Con Tryz.prog 24 [] (.bool true,[],[]):=by
  refine mcb_of_vc mix x24 (by simp [F24]) fun hw _=>?_
  clear hw
  repeat' with_reducible first|refine gTn_of (fun h=>?_) (fun h=>?_)|refine gT_of (fun h=>?_) (fun h=>?_)|refine caseTn_of (fun h=>?_) (fun h=>?_)|refine caseT_of (fun h=>?_) (fun h=>?_)|refine FN ?_ ?_ ?_ ?_ rfl ?_|refine kv_ifn ?_ ?_|refine kv_if ?_ ?_|refine k_if ?_ ?_|refine IA ?_ ?_ ?_|refine L1 ?_ ?_|refine L2 ?_ ?_|refine L3 ?_ ?_ ?_ ?_|refine L4 ?_ ?_|refine L5 ?_ ?_ ?_ ?_ ?_|refine L6 ?_ ?_ ?_ ?_ ?_|refine AC.p0 conB85 ?_ (by simp -implicitDefEqProofs only [qU,pure_encZ]; done) ?_ ?_|refine AC.p0 conB48a ?_ (by simp -implicitDefEqProofs only [qU,pure_encZ]; done) ?_ ?_|refine AC.p0 conB48b ?_ (by simp -implicitDefEqProofs only [qU,pure_encZ]; done) ?_ ?_|refine AC.p0 conB25a ?_ (by simp -implicitDefEqProofs only [qU,pure_encZ]; done) ?_ ?_|refine AC.p0 conB25b ?_ (by simp -implicitDefEqProofs only [qU,pure_encZ]; done) ?_ ?_|refine AC.p0 conB25c ?_ (by simp -implicitDefEqProofs only [qU,pure_encZ]; done) ?_ ?_|refine AC.viewAll ?_ ?_ ?_|refine P0 (con29) ?_ ?_ ?_|refine ACV.of (con29) ?_ ?_ ?_|refine ACK.of (con29) ?_ ?_|refine P0 (con30) ?_ ?_ ?_|refine ACV.of (con30) ?_ ?_ ?_|refine ACK.of (con30) ?_ ?_|simp -implicitDefEqProofs only [F24,qA,ld_0,ld_pv,st_0,splice,doEqs,qU,List.reduceReplicate,Nat.reduceAdd,Nat.reduceSub,Nat.reduceLeDiff,Nat.reduceEqDiff,Nat.reduceMul,reduceIte,reduceCtorEq,qI,Nat.reduceLT,Nat.reduceBEq,up_s,Int.toNat_natCast,encT,qZ,qB,qB2,ia_lit,ia_lit1,Int.natCast_zero,Int.reduceEq,Int.reduceNe,doBslice, *]
  all_goals first
    | exact Wk.refl _
    | trace_state

end Go.Sak
