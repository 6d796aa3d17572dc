/- Part S121 of the proofs about the program: K226. Conditions: none. -/
import Derived.Test.YtahdilehajdhgaaGreatS120
import Derived.Test.YtahdilehajdhgaaGreatS118
import Derived.Test.YtahdilehajdhgaaGreatS04
import Derived.Test.YtahdilehajdhgaaGreatProg
import Derived.KernelRfl
namespace Go.Sak
open Go Go.RowKit Go.Proofs
set_option linter.unusedVariables false
set_option linter.unusedSimpArgs false
set_option maxRecDepth 10000
set_option maxHeartbeats 8000000
def F7:AFn:=⟨85,(.seq (.reg [o1 2 (.box 33 0),o1 4 (.mv (.const (.bool false)))]) (.seq (.reg [o1 13 (.call 14 []),o1 5 (.mv 13)]) (.seq (.seq (.reg [o1 14 (.ld 20 true 2),o1 15 (.call 15 [14]),o1 16 (.not 15)]) (.cond 16 (.seq (.reg [o1 17 (.mv 5),o1 4 (.mv 17)]) .ret) .skip)) (.seq (.reg [o1 19 (.ld 20 true 2),o1 20 (.mv 1),o1 21 (.conv .i64 20),o1 22 (.call 16 [19,21]),o1 18 (.mv 22),o1 23 (.ext 18 0),o1 24 (.ext 18 1),o1 25 (.ext 18 2),o1 6 (.alloc 33 [(.int .i64 0),(.int .i64 0),(.int .i64 0),(.int .i64 0),(.int .i64 0),(.int .i64 0),(.bool false),(.int .i64 0),(.int .i64 0),(.int .i64 0),.slnil,.slnil,.slnil,(.int .i64 0),.slnil,(.int .i64 0),.slnil,(.int .i64 0),.slnil,.slnil]),o2 (.st 20 6 23),o1 7 (.mv 24),o1 8 (.mv 25)]) (.seq (.reg [o1 26 (.ld 20 true 6),o1 9 (.alloc 33 [(.int .i64 0),(.int .i64 0),(.int .i64 0),(.int .i64 0),(.int .i64 0),(.int .i64 0),(.bool false),(.int .i64 0),(.int .i64 0),(.int .i64 0),.slnil,.slnil,.slnil,(.int .i64 0),.slnil,(.int .i64 0),.slnil,(.int .i64 0),.slnil,.slnil]),o2 (.st 20 9 26)]) (.seq (.reg [o1 27 (.faddr 17 2),o1 28 (.ld 1 false 27),o1 29 (.faddr 17 9),o2 (.st 1 29 28)]) (.seq (.reg [o1 10 (.mv (.const (.bool false)))]) (.seq (.seq (.reg [o1 11 (.mv (ci 0))]) (.block 0 (.loop (.seq (.seq (.reg [o1 30 (.mv 11),o1 31 (.faddr 18 2),o1 32 (.ld 1 false 31),o1 33 (.len 32),o1 34 (.bin .lss 30 33)]) (.cond 34 .skip (.exit 0))) (.seq (.block 1 (.reg [o1 37 (.mv 10),o1 38 (.mv 37),o4 39 (.faddr 18 2) 38,o4 40 (.ld 1 false 39) 38,o4 41 (.mv 11) 38,o4 42 (.iaddr 11 40 41) 38,o4 43 (.faddr 1 42) 38,o4 44 (.ld 1 false 43) 38,o4 45 (.bin .eql 44 (ci 3)) 38,o1 46 (.pick 38 (.const (.bool true)) 45),o1 47 (.mv 46),o4 48 (.faddr 18 2) 47,o4 49 (.ld 1 false 48) 47,o4 50 (.mv 11) 47,o4 51 (.iaddr 11 49 50) 47,o4 52 (.faddr 1 51) 47,o4 53 (.ld 1 false 52) 47,o4 54 (.bin .eql 53 (ci 6)) 47,o1 55 (.pick 47 (.const (.bool true)) 54),o1 10 (.mv 55)])) (.reg [o1 35 (.mv 11),o1 36 (.bin .add 35 (ci 1)),o1 11 (.mv 36)])))))) (.seq (.reg [o1 56 (.ld 20 true 2),o1 57 (.call 21 [56]),o1 58 (.len 57),o1 59 (.bin .eql 58 (ci 0)),o1 12 (.mv 59)]) (.seq (.reg [o1 60 (.mv 5),o1 61 (.mv 60),o3 62 (.mv 8) 61,o3 63 (.bin .neq 62 (ci 0)) 61,o3 64 (.mv 63) 61,o4 65 (.mv 12) 64,o4 66 (.not 65) 64,o3 67 (.pick 64 (.const (.bool true)) 66) 61,o3 68 (.mv 67) 61,o4 69 (.mv 7) 68,o4 70 (.len 69) 68,o4 71 (.bin .eql 70 (ci 0)) 68,o4 72 (.mv 71) 68,o3 73 (.ld 20 true 9) 72,o3 74 (.ld 20 true 2) 72,o3 75 (.call 17 [73,74]) 72,o4 76 (.pick 72 75 (.const (.bool false))) 68,o3 77 (.pick 68 (.const (.bool true)) 76) 61,o1 78 (.pick 61 77 (.const (.bool false))),o1 79 (.mv 78),o3 80 (.mv 10) 79,o3 81 (.mv 80) 79,o4 82 (.mv 12) 81,o3 83 (.pick 81 (.const (.bool true)) 82) 79,o1 84 (.pick 79 83 (.const (.bool false))),o1 4 (.mv 84)]) .ret)))))))))),[(4,none)]⟩
theorem x7:xf Tryz.prog 7=some F7:=by kernel_rfl
def timedUp (l:List Thread):Bool:=l.any fun t=>decide (t.kind=3) || decide (t.kind=6)
theorem timed_s {l:List Thread} {i:Nat} (h:i<l.length):timedUp (l.take (i+1))=(timedUp (l.take i) || (decide ((l.getD i default).kind=3) || decide ((l.getD i default).kind=6))):=by
  unfold timedUp
  rw [List.take_succ_eq_append_getElem h,List.any_append]
  simp [List.getD_eq_getElem?_getD,h]
theorem tick_bd {s:State} {n:Int} {k:Nat} (h:Bd s k):Bd (tkAt (tkTick s n).1 s.now) k:=by
  unfold tkTick
  split
  · exact h
  · split
    · exact h
    · exact fold_bd _ (show Bd (tkAt s (s.now+n)) k from h)
theorem none_tick {s:State} {n:Int} (he:(tkTick s n).2.2=0) (h:duesOf s=[]):(tkTick s n).2.1=[]∧tkAt (tkTick s n).1 s.now=s:=by
  obtain ⟨_,_,_,e⟩:=tick_right he
  rw [e]
  have hi:tkIds s n=[]:=none_ids h
  simp only [hi]
  exact ⟨trivial,rfl⟩
theorem timed_none {s:State} (h:timedUp s.threads=false):duesOf s=[]:=none_dues fun t ht=>by
  have:=List.any_eq_false.1 h t ht
  simpa [opTimed] using this
theorem con7 {s:State} {n:Int} (h0:0≤n∧n≤4294967295):Con Tryz.prog 7 [.agg (encZ s),.int .u32 n] (.bool true,[],[]):=by
  have hcv:IntKind.wrap .i64 n=n:=wrap64 (by omega) (by omega)
  cases hf:few s with
  | false =>
    refine mcb_of_vc mix x7 (by simp [F7]) fun hw _=>?_
    clear hw
    repeat' with_reducible first|refine gTn_of (fun h=>?_) (fun h=>?_)|refine gT_of (fun h=>?_) (fun h=>?_)|refine caseTn_of (fun h=>?_) (fun h=>?_)|refine caseT_of (fun h=>?_) (fun h=>?_)|refine FN ?_ ?_ ?_ ?_ rfl ?_|refine kv_ifn ?_ ?_|refine kv_if ?_ ?_|refine k_if ?_ ?_|refine IA ?_ ?_ ?_|refine L1 ?_ ?_|refine L2 ?_ ?_|refine L3 ?_ ?_ ?_ ?_|refine L4 ?_ ?_|refine L5 ?_ ?_ ?_ ?_ ?_|refine L6 ?_ ?_ ?_ ?_ ?_|refine AC.p0 con14 ?_ (by simp -implicitDefEqProofs only [qU,pure_encZ]; done) ?_ ?_|refine AC.p0 (con15s ) ?_ (by simp -implicitDefEqProofs only [qU,pure_encZ]; done) ?_ ?_|refine AC.p0 (con16s ?_) ?_ (by simp -implicitDefEqProofs only [qU,pure_encZ]; done) ?_ ?_|refine AC.p0 (con21s ?_) ?_ (by simp -implicitDefEqProofs only [qU,pure_encZ]; done) ?_ ?_|refine AC.p0 (con17s ?_) ?_ (by simp -implicitDefEqProofs only [qU,pure_encZ]; done) ?_ ?_|simp -implicitDefEqProofs only [F7,qA,ld_0,ld_pv,st_0,doEqs,qU,List.reduceReplicate,Nat.reduceAdd,Nat.reduceSub,Nat.reduceLeDiff,Nat.reduceEqDiff,Nat.reduceMul,reduceIte,reduceCtorEq,qI,Nat.reduceLT,Nat.reduceBEq,up_s,Int.toNat_natCast,encT,qZ,splice_c,sp_now,sp_allZ,pt_now,pt_thr,encI,Int.natCast_zero,Int.reduceEq,Int.reduceNe,doConv, *]
    all_goals first
      | exact Wk.refl _
      | trace_state
  | true =>
  have hb8:=few_k (k:=100000000) hf (by omega)
  have hb5:=few_k (k:=100000) hf (by omega)
  refine mcb_of_vc mix x7 (by simp [F7]) fun hw _=>?_
  clear hw
  repeat' with_reducible first|refine gTn_of (fun h=>?_) (fun h=>?_)|refine gT_of (fun h=>?_) (fun h=>?_)|refine caseTn_of (fun h=>?_) (fun h=>?_)|refine caseT_of (fun h=>?_) (fun h=>?_)|refine FN ?_ ?_ ?_ ?_ rfl ?_|refine kv_ifn ?_ ?_|refine kv_if ?_ ?_|refine k_if ?_ ?_|refine IA ?_ ?_ ?_|refine L1 ?_ ?_|refine L2 ?_ ?_|refine L3 ?_ ?_ ?_ ?_|refine L4 ?_ ?_|refine L5 ?_ ?_ ?_ ?_ ?_|refine L6 ?_ ?_ ?_ ?_ ?_|refine AC.p0 con14 ?_ (by simp -implicitDefEqProofs only [qU,pure_encZ]; done) ?_ ?_|refine AC.p0 (con15s ) ?_ (by simp -implicitDefEqProofs only [qU,pure_encZ]; done) ?_ ?_|refine AC.p0 (con16s ?_) ?_ (by simp -implicitDefEqProofs only [qU,pure_encZ]; done) ?_ ?_|refine AC.p0 (con21s ?_) ?_ (by simp -implicitDefEqProofs only [qU,pure_encZ]; done) ?_ ?_|refine AC.p0 (con17s ?_) ?_ (by simp -implicitDefEqProofs only [qU,pure_encZ]; done) ?_ ?_|simp -implicitDefEqProofs only [F7,qA,ld_0,ld_pv,st_0,doEqs,qU,List.reduceReplicate,Nat.reduceAdd,Nat.reduceSub,Nat.reduceLeDiff,Nat.reduceEqDiff,Nat.reduceMul,reduceIte,reduceCtorEq,qI,Nat.reduceLT,Nat.reduceBEq,up_s,Int.toNat_natCast,encT,qZ,splice_c,sp_now,sp_allZ,pt_now,pt_thr,encI,Int.natCast_zero,Int.reduceEq,Int.reduceNe,doConv, *]
  all_goals first
    | exact hb8
    | exact hb5
    | exact puress_map pure_encD _
    | refine lm_of 6 (fun i:Nat=>nl 1 (some (.int .u32 n) :: some (.ptr 2 0 0) :: nl 2 (some (.bool true) :: nl 1 (some (.slv 1 ((tkTick s n).2.1.map encI)) :: some (.int .i64 (tkTick s n).2.2) :: some (.ptr 3 0 0) :: some (.bool (timedUp (s.threads.take i))) :: some (.int .i64 i) :: nl 73 [])))) (fun i=>[(2,.rows 33 20 [encZ s]),(3,.rows 33 20 [encZ (tkAt (tkTick s n).1 s.now)])]) (fun i=>i≤s.threads.length) (fun i=>s.threads.length - i) [] [(1,2),(321,3)] 0 (by omega) ?_ ?_ ?_ ?_ ?_ ?_
    | trace_state
  rotate_right
  · intro i hi
    have hl200:s.threads.length≤200:=(few_bd hf).2.2.2.2.2.1
    clear hcv h0
    simp only [all_some,all_none,all_nil,nl_s,nl_0]
    intros
    rcases Nat.lt_or_eq_of_le hi with hlt | heq
    · have hd:((i:Int)<(s.threads.length:Int))=True:=by simp; omega
      have hS:=timed_s hlt
      have hwi:IntKind.wrap .i64 ((i:Int)+1)=((i+1:Nat):Int):=by rw [wrap64 (by omega) (by omega)]; omega
      repeat' with_reducible first|refine gTn_of (fun h=>?_) (fun h=>?_)|refine gT_of (fun h=>?_) (fun h=>?_)|refine caseTn_of (fun h=>?_) (fun h=>?_)|refine caseT_of (fun h=>?_) (fun h=>?_)|refine FN ?_ ?_ ?_ ?_ rfl ?_|refine kv_ifn ?_ ?_|refine kv_if ?_ ?_|refine k_if ?_ ?_|refine IA ?_ ?_ ?_|refine L1 ?_ ?_|refine L2 ?_ ?_|refine L3 ?_ ?_ ?_ ?_|refine L4 ?_ ?_|refine L5 ?_ ?_ ?_ ?_ ?_|refine L6 ?_ ?_ ?_ ?_ ?_|refine AC.p0 con14 ?_ (by simp -implicitDefEqProofs only [qU,pure_encZ]; done) ?_ ?_|refine AC.p0 (con15s ) ?_ (by simp -implicitDefEqProofs only [qU,pure_encZ]; done) ?_ ?_|refine AC.p0 (con16s ?_) ?_ (by simp -implicitDefEqProofs only [qU,pure_encZ]; done) ?_ ?_|refine AC.p0 (con21s ?_) ?_ (by simp -implicitDefEqProofs only [qU,pure_encZ]; done) ?_ ?_|refine AC.p0 (con17s ?_) ?_ (by simp -implicitDefEqProofs only [qU,pure_encZ]; done) ?_ ?_|refine ia_of (d:=default) ?_ ?_|refine rm_of [] [(2,2),(3,3)] (i+1) ?_ ?_ ?_ ?_ ?_ ?_|simp -implicitDefEqProofs only [F7,qA,ld_0,ld_pv,st_0,doEqs,qU,List.reduceReplicate,Nat.reduceAdd,Nat.reduceSub,Nat.reduceLeDiff,Nat.reduceEqDiff,Nat.reduceMul,reduceIte,reduceCtorEq,qI,Nat.reduceLT,Nat.reduceBEq,up_s,Int.toNat_natCast,encT,qZ,splice_c,sp_now,sp_allZ,pt_now,pt_thr,encI,Int.natCast_zero,Int.reduceEq,Int.reduceNe,doConv,lm_normal,lm_exit,lm_ret,nl_s,nl_0, *]
      all_goals first
        | omega
        | exact ⟨by omega,by omega⟩
        | (constructor <;> omega)
        | rfl
        | (rw [hS]; simp [*]; done)
        | (simp [*]; done)
        | trace_state
    · have hd:((i:Int)<(s.threads.length:Int))=False:=by simp; omega
      have hT:s.threads.take i=s.threads:=List.take_of_length_le (by omega)
      have hD8:Bd (tkAt (tkTick s n).1 s.now) 100000000:=tick_bd hb8
      rw [hT]
      clear heq hT
      by_cases hz0:duesOf s=[]
      · have hz:(((duesOf s).length:Int)=0)=True:=by simp [hz0]
        by_cases he:(tkTick s n).2.2=0
        · obtain ⟨q1,q2⟩:=none_tick he hz0
          clear hz0
          repeat' with_reducible first|refine gTn_of (fun h=>?_) (fun h=>?_)|refine gT_of (fun h=>?_) (fun h=>?_)|refine caseTn_of (fun h=>?_) (fun h=>?_)|refine caseT_of (fun h=>?_) (fun h=>?_)|refine FN ?_ ?_ ?_ ?_ rfl ?_|refine kv_ifn ?_ ?_|refine kv_if ?_ ?_|refine k_if ?_ ?_|refine IA ?_ ?_ ?_|refine L1 ?_ ?_|refine L2 ?_ ?_|refine L3 ?_ ?_ ?_ ?_|refine L4 ?_ ?_|refine L5 ?_ ?_ ?_ ?_ ?_|refine L6 ?_ ?_ ?_ ?_ ?_|refine AC.p0 con14 ?_ (by simp -implicitDefEqProofs only [qU,pure_encZ]; done) ?_ ?_|refine AC.p0 (con15s ) ?_ (by simp -implicitDefEqProofs only [qU,pure_encZ]; done) ?_ ?_|refine AC.p0 (con16s ?_) ?_ (by simp -implicitDefEqProofs only [qU,pure_encZ]; done) ?_ ?_|refine AC.p0 (con21s ?_) ?_ (by simp -implicitDefEqProofs only [qU,pure_encZ]; done) ?_ ?_|refine AC.p0 (con17s ?_) ?_ (by simp -implicitDefEqProofs only [qU,pure_encZ]; done) ?_ ?_|simp -implicitDefEqProofs only [F7,qA,ld_0,ld_pv,st_0,doEqs,qU,List.reduceReplicate,Nat.reduceAdd,Nat.reduceSub,Nat.reduceLeDiff,Nat.reduceEqDiff,Nat.reduceMul,reduceIte,reduceCtorEq,qI,Nat.reduceLT,Nat.reduceBEq,up_s,Int.toNat_natCast,encT,qZ,splice_c,sp_now,sp_allZ,pt_now,pt_thr,encI,Int.natCast_zero,Int.reduceEq,Int.reduceNe,doConv,lm_normal,lm_exit,lm_ret,nl_s,nl_0, *]
          all_goals first
            | exact hb5
            | exact puress_map pure_encD _
            | exact hb8
            | exact hD8
            | exact Wk.refl _
            | (refine Wk.of_eq ?_; simp [*]; done)
            | trace_state
        · clear hz0
          repeat' with_reducible first|refine gTn_of (fun h=>?_) (fun h=>?_)|refine gT_of (fun h=>?_) (fun h=>?_)|refine caseTn_of (fun h=>?_) (fun h=>?_)|refine caseT_of (fun h=>?_) (fun h=>?_)|refine FN ?_ ?_ ?_ ?_ rfl ?_|refine kv_ifn ?_ ?_|refine kv_if ?_ ?_|refine k_if ?_ ?_|refine IA ?_ ?_ ?_|refine L1 ?_ ?_|refine L2 ?_ ?_|refine L3 ?_ ?_ ?_ ?_|refine L4 ?_ ?_|refine L5 ?_ ?_ ?_ ?_ ?_|refine L6 ?_ ?_ ?_ ?_ ?_|refine AC.p0 con14 ?_ (by simp -implicitDefEqProofs only [qU,pure_encZ]; done) ?_ ?_|refine AC.p0 (con15s ) ?_ (by simp -implicitDefEqProofs only [qU,pure_encZ]; done) ?_ ?_|refine AC.p0 (con16s ?_) ?_ (by simp -implicitDefEqProofs only [qU,pure_encZ]; done) ?_ ?_|refine AC.p0 (con21s ?_) ?_ (by simp -implicitDefEqProofs only [qU,pure_encZ]; done) ?_ ?_|refine AC.p0 (con17s ?_) ?_ (by simp -implicitDefEqProofs only [qU,pure_encZ]; done) ?_ ?_|simp -implicitDefEqProofs only [F7,qA,ld_0,ld_pv,st_0,doEqs,qU,List.reduceReplicate,Nat.reduceAdd,Nat.reduceSub,Nat.reduceLeDiff,Nat.reduceEqDiff,Nat.reduceMul,reduceIte,reduceCtorEq,qI,Nat.reduceLT,Nat.reduceBEq,up_s,Int.toNat_natCast,encT,qZ,splice_c,sp_now,sp_allZ,pt_now,pt_thr,encI,Int.natCast_zero,Int.reduceEq,Int.reduceNe,doConv,lm_normal,lm_exit,lm_ret,nl_s,nl_0, *]
          all_goals first
            | exact hb5
            | exact puress_map pure_encD _
            | exact hb8
            | exact hD8
            | exact Wk.refl _
            | (refine Wk.of_eq ?_; simp [*]; done)
            | trace_state
      · have hz:(((duesOf s).length:Int)=0)=False:=by simpa using hz0
        have ht:timedUp s.threads=true:=by
          cases h:timedUp s.threads with
          | true=>rfl
          | false=>exact absurd (timed_none h) hz0
        clear hz0
        repeat' with_reducible first|refine gTn_of (fun h=>?_) (fun h=>?_)|refine gT_of (fun h=>?_) (fun h=>?_)|refine caseTn_of (fun h=>?_) (fun h=>?_)|refine caseT_of (fun h=>?_) (fun h=>?_)|refine FN ?_ ?_ ?_ ?_ rfl ?_|refine kv_ifn ?_ ?_|refine kv_if ?_ ?_|refine k_if ?_ ?_|refine IA ?_ ?_ ?_|refine L1 ?_ ?_|refine L2 ?_ ?_|refine L3 ?_ ?_ ?_ ?_|refine L4 ?_ ?_|refine L5 ?_ ?_ ?_ ?_ ?_|refine L6 ?_ ?_ ?_ ?_ ?_|refine AC.p0 con14 ?_ (by simp -implicitDefEqProofs only [qU,pure_encZ]; done) ?_ ?_|refine AC.p0 (con15s ) ?_ (by simp -implicitDefEqProofs only [qU,pure_encZ]; done) ?_ ?_|refine AC.p0 (con16s ?_) ?_ (by simp -implicitDefEqProofs only [qU,pure_encZ]; done) ?_ ?_|refine AC.p0 (con21s ?_) ?_ (by simp -implicitDefEqProofs only [qU,pure_encZ]; done) ?_ ?_|refine AC.p0 (con17s ?_) ?_ (by simp -implicitDefEqProofs only [qU,pure_encZ]; done) ?_ ?_|simp -implicitDefEqProofs only [F7,qA,ld_0,ld_pv,st_0,doEqs,qU,List.reduceReplicate,Nat.reduceAdd,Nat.reduceSub,Nat.reduceLeDiff,Nat.reduceEqDiff,Nat.reduceMul,reduceIte,reduceCtorEq,qI,Nat.reduceLT,Nat.reduceBEq,up_s,Int.toNat_natCast,encT,qZ,splice_c,sp_now,sp_allZ,pt_now,pt_thr,encI,Int.natCast_zero,Int.reduceEq,Int.reduceNe,doConv,lm_normal,lm_exit,lm_ret,nl_s,nl_0, *]
        all_goals first
          | exact hb5
          | exact puress_map pure_encD _
          | exact hb8
          | exact hD8
          | exact Wk.refl _
          | (refine Wk.of_eq ?_; simp [*]; done)
          | trace_state
  all_goals first
    | omega
    | (simp -implicitDefEqProofs only [qA,ld_0,ld_pv,st_0,splice,doEqs,qU,List.reduceReplicate,Nat.reduceAdd,Nat.reduceSub,Nat.reduceLeDiff,Nat.reduceEqDiff,Nat.reduceMul,reduceIte,reduceCtorEq,qI,Nat.reduceLT,Nat.reduceBEq,qZ,nl_s,nl_0]; first | done | (simp; done))
    | (simp only [List.take_zero,timedUp,List.any_nil]; (simp -implicitDefEqProofs only [qA,ld_0,ld_pv,st_0,splice,doEqs,qU,List.reduceReplicate,Nat.reduceAdd,Nat.reduceSub,Nat.reduceLeDiff,Nat.reduceEqDiff,Nat.reduceMul,reduceIte,reduceCtorEq,qI,Nat.reduceLT,Nat.reduceBEq,qZ,nl_s,nl_0]; first | done | (simp; done)))
    | trace_state

end Go.Sak
