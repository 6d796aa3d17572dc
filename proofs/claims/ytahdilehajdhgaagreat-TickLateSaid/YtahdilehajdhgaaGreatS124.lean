/- Part S124 of the proofs about the program: Pb, K229. Conditions: none. -/
import Derived.Test.YtahdilehajdhgaaGreatS118
import Derived.Test.YtahdilehajdhgaaGreatS120
import Derived.Test.YtahdilehajdhgaaGreatS04
import Derived.Test.YtahdilehajdhgaaGreatProg
import Derived.KernelRfl
namespace Go.Sak
open Go Go.RowKit
set_option linter.unusedVariables false
set_option linter.unusedSimpArgs false
def freshT (t u:Thread):Bool:=u.late && !t.late
def freshN (s a:State):Nat→Nat
  | 0=>0
  | i+1=>freshN s a i+(if freshT (s.threads.getD i default) (a.threads.getD i default)=true then 1 else 0)
theorem freshN_le (s a:State):∀ i,freshN s a i≤i
  | 0=>Nat.le_refl _
  | i+1=>by have:=freshN_le s a i; unfold freshN; split <;> omega
theorem freshN_items {s:State} {n:Int} (h:Fab s):∀ i,i≤s.threads.length→freshN s (tkFold (tkAt s (s.now+n)) (tkIds s n)) i=((itemsT s.threads i).filter fun x=>decide (x.2.untl≤s.now+n)).length
  | 0,_=>rfl
  | i + 1,hi=>by
    have ih:=freshN_items (n:=n) h i (by omega)
    have hs:=itemsT_succ (ts:=s.threads) (k:=i) (getD_some (d:=default) (by omega))
    unfold freshN
    rw [ih,hs,List.filter_append,List.length_append]
    congr 1
    have hf:=fresh_iff (n:=n) h (i:=i) (by omega)
    simp only [freshT,Bool.and_eq_true,Bool.not_eq_true']
    by_cases k:timedT (s.threads.getD i default)=true
    · by_cases k2:(s.threads.getD i default).untl≤s.now+n
      · rw [if_pos (hf.2 ⟨k,k2⟩),if_pos k,List.filter_cons_of_pos (by simpa using k2)]; rfl
      · rw [if_neg (fun hh=>k2 (hf.1 hh).2),if_pos k,List.filter_cons_of_neg (by simpa using k2)]; rfl
    · rw [if_neg (fun hh=>k (hf.1 hh).1),if_neg k]; rfl
theorem fresh_all {s:State} {n:Int} (h:Fab s):freshN s (tkFold (tkAt s (s.now+n)) (tkIds s n)) s.threads.length=(tkIds s n).length:=by
  rw [freshN_items h _ (Nat.le_refl _),ids_eq]
  unfold lateIds
  rw [List.length_map,((dues_perm h).filter _).length_eq,List.filter_map,List.length_map]
  rfl
theorem late_each {s:State} {n:Int} (h:Fab s) {i:Nat} (hi:i<s.threads.length) :
    (freshT (s.threads.getD i default) ((tkFold (tkAt s (s.now+n)) (tkIds s n)).threads.getD i default)=true∧((tkFold (tkAt s (s.now+n)) (tkIds s n)).threads.getD i default).late=true∧(s.threads.getD i default).late=false∧((tkFold (tkAt s (s.now+n)) (tkIds s n)).threads.getD i default).st=1∧(s.threads.getD i default).st≠0∧opTimed (s.threads.getD i default).kind=true∧(s.threads.getD i default).untl≤s.now+n)
    ∨ (freshT (s.threads.getD i default) ((tkFold (tkAt s (s.now+n)) (tkIds s n)).threads.getD i default)=false∧(tkFold (tkAt s (s.now+n)) (tkIds s n)).threads.getD i default=s.threads.getD i default∧(((opTimed (s.threads.getD i default).kind && decide ((s.threads.getD i default).st≠0)) && decide ((s.threads.getD i default).untl≤s.now+n)) && !(s.threads.getD i default).late)=false):=by
  have ht:=tick_thr (n:=n) h hi
  by_cases k:timedT (s.threads.getD i default)=true∧(s.threads.getD i default).untl≤s.now+n
  · rw [if_pos k] at ht
    have k1:=timed_ok k.1
    refine .inl ⟨?_,?_,k1.2,?_,k1.1.1,k1.1.2,k.2⟩
    · unfold freshT; rw [ht,lateTh_late,k1.2]; rfl
    · rw [ht,lateTh_late]
    · rw [ht]; exact lateTh_st (h.thr _ (getD_mem hi)) k1.1.1
  · rw [if_neg k] at ht
    refine .inr ⟨?_,ht,?_⟩
    · unfold freshT; rw [ht]; simp
    · rw [← Bool.not_eq_true]
      simp only [Bool.and_eq_true,decide_eq_true_eq,Bool.not_eq_true']
      rintro ⟨⟨⟨a,b⟩,c⟩,d⟩
      refine k ⟨?_,c⟩
      simp only [timedT,Bool.and_eq_true,decide_eq_true_eq,Bool.not_eq_true']
      exact ⟨⟨b,a⟩,d⟩
end Go.Sak
namespace Go.Sak
open Go Go.RowKit Go.Proofs
set_option linter.unusedVariables false
set_option linter.unusedSimpArgs false
set_option maxRecDepth 10000
set_option maxHeartbeats 8000000
def F4:AFn:=⟨133,(.seq (.reg [o1 2 (.box 33 0),o1 4 (.mv (.const (.bool false)))]) (.seq (.reg [o1 16 (.call 14 []),o1 5 (.mv 16)]) (.seq (.seq (.reg [o1 17 (.ld 20 true 2),o1 18 (.call 15 [17]),o1 19 (.not 18)]) (.cond 19 (.seq (.reg [o1 20 (.mv 5),o1 4 (.mv 20)]) .ret) .skip)) (.seq (.reg [o1 22 (.ld 20 true 2),o1 23 (.mv 1),o1 24 (.call 16 [22,23]),o1 21 (.mv 24),o1 25 (.ext 21 0),o1 26 (.ext 21 1),o1 27 (.ext 21 2),o1 6 (.alloc 33 [(.int .i64 0),(.int .i64 0),(.int .i64 0),(.int .i64 0),(.int .i64 0),(.int .i64 0),(.bool false),(.int .i64 0),(.int .i64 0),(.int .i64 0),.slnil,.slnil,.slnil,(.int .i64 0),.slnil,(.int .i64 0),.slnil,(.int .i64 0),.slnil,.slnil]),o2 (.st 20 6 25),o1 7 (.mv 26),o1 8 (.mv 27)]) (.seq (.seq (.reg [o1 28 (.mv 8),o1 29 (.bin .neq 28 (ci 0)),o1 30 (.mv 29),o4 31 (.faddr 18 6) 30,o4 32 (.ld 1 false 31) 30,o4 33 (.len 32) 30,o4 34 (.faddr 18 2) 30,o4 35 (.ld 1 false 34) 30,o4 36 (.len 35) 30,o4 37 (.bin .neq 33 36) 30,o1 38 (.pick 30 (.const (.bool true)) 37)]) (.cond 38 (.seq (.reg [o1 39 (.mv 5),o1 40 (.mv 39),o3 41 (.mv 8) 40,o3 42 (.bin .neq 41 (ci 0)) 40,o1 43 (.pick 40 42 (.const (.bool false))),o1 4 (.mv 43)]) .ret) .skip)) (.seq (.reg [o1 9 (.mv (ci 0))]) (.seq (.seq (.reg [o1 10 (.mv (ci 0))]) (.block 0 (.loop (.seq (.seq (.reg [o1 44 (.mv 10),o1 45 (.faddr 18 2),o1 46 (.ld 1 false 45),o1 47 (.len 46),o1 48 (.bin .lss 44 47)]) (.cond 48 .skip (.exit 0))) (.seq (.block 1 (.seq (.reg [o1 51 (.faddr 18 2),o1 52 (.ld 1 false 51),o1 53 (.mv 10),o1 54 (.iaddr 11 52 53),o1 55 (.ld 11 true 54),o1 11 (.alloc 42 [(.int .i64 0),(.int .i64 0),(.int .i64 0),(.int .i64 0),(.int .i64 0),(.int .i64 0),(.int .i64 0),(.int .i64 0),(.bool false),(.int .i64 0),(.int .i64 0)]),o2 (.st 11 11 55)]) (.seq (.reg [o1 56 (.faddr 18 6),o1 57 (.ld 1 false 56),o1 58 (.mv 10),o1 59 (.iaddr 11 57 58),o1 60 (.ld 11 true 59),o1 12 (.alloc 42 [(.int .i64 0),(.int .i64 0),(.int .i64 0),(.int .i64 0),(.int .i64 0),(.int .i64 0),(.int .i64 0),(.int .i64 0),(.bool false),(.int .i64 0),(.int .i64 0)]),o2 (.st 11 12 60)]) (.seq (.reg [o1 61 (.faddr 8 12),o1 62 (.ld 1 false 61),o1 63 (.mv 62),o3 64 (.faddr 8 11) 63,o3 65 (.ld 1 false 64) 63,o3 66 (.not 65) 63,o1 67 (.pick 63 66 (.const (.bool false))),o1 13 (.mv 67)]) (.seq (.seq (.reg [o1 68 (.mv 13)]) (.cond 68 (.reg [o1 69 (.mv 9),o1 70 (.bin .add 69 (ci 1)),o1 9 (.mv 70)]) .skip)) (.seq (.reg [o1 71 (.faddr 1 11),o1 72 (.ld 1 false 71),o1 73 (.bin .eql 72 (ci 3)),o1 74 (.mv 73),o4 75 (.faddr 1 11) 74,o4 76 (.ld 1 false 75) 74,o4 77 (.bin .eql 76 (ci 6)) 74,o1 78 (.pick 74 (.const (.bool true)) 77),o1 14 (.mv 78)]) (.seq (.reg [o1 79 (.mv 14),o1 80 (.mv 79),o3 81 (.faddr 0 11) 80,o3 82 (.ld 1 false 81) 80,o3 83 (.bin .neq 82 (ci 0)) 80,o1 84 (.pick 80 83 (.const (.bool false))),o1 85 (.mv 84),o3 86 (.faddr 3 11) 85,o3 87 (.ld 1 false 86) 85,o3 88 (.faddr 17 6) 85,o3 89 (.ld 1 false 88) 85,o3 90 (.bin .leq 87 89) 85,o1 91 (.pick 85 90 (.const (.bool false))),o1 15 (.mv 91)]) (.seq (.reg [o1 92 (.faddr 8 11),o1 93 (.ld 1 false 92),o1 94 (.mv 93),o3 95 (.faddr 8 12) 94,o3 96 (.ld 1 false 95) 94,o3 97 (.not 96) 94,o1 98 (.pick 94 97 (.const (.bool false))),o1 99 (.mv 98),o4 100 (.mv 13) 99,o4 101 (.mv 15) 99,o4 102 (.mv 101) 99,o3 103 (.faddr 8 11) 102,o3 104 (.ld 1 false 103) 102,o3 105 (.not 104) 102,o4 106 (.pick 102 105 (.const (.bool false))) 99,o4 107 (.eqb true 100 106) 99,o1 108 (.pick 99 (.const (.bool true)) 107),o1 109 (.mv 108),o4 110 (.mv 13) 109,o4 111 (.mv 110) 109,o3 112 (.faddr 0 12) 111,o3 113 (.ld 1 false 112) 111,o3 114 (.bin .neq 113 (ci 1)) 111,o4 115 (.pick 111 114 (.const (.bool false))) 109,o1 116 (.pick 109 (.const (.bool true)) 115),o1 117 (.mv 116),o4 118 (.mv 13) 117,o4 119 (.not 118) 117,o4 120 (.mv 119) 117,o3 121 (.ld 11 true 12) 120,o3 122 (.ld 11 true 11) 120,o3 123 (.eqs true [(.int .i64),(.int .i64),(.int .i64),(.int .i64),(.int .i64),(.int .i64),(.int .i64),(.int .i64),.bool,(.int .i64),(.int .i64)] 121 122) 120,o4 124 (.pick 120 123 (.const (.bool false))) 117,o1 125 (.pick 117 (.const (.bool true)) 124)]) (.cond 125 (.seq (.reg [o1 4 (.mv (.const (.bool false)))]) .ret) .skip))))))))) (.reg [o1 49 (.mv 10),o1 50 (.bin .add 49 (ci 1)),o1 10 (.mv 50)])))))) (.seq (.reg [o1 126 (.mv 5),o1 127 (.mv 126),o3 128 (.mv 9) 127,o3 129 (.mv 7) 127,o3 130 (.len 129) 127,o3 131 (.bin .eql 128 130) 127,o1 132 (.pick 127 131 (.const (.bool false))),o1 4 (.mv 132)]) .ret)))))))),[(4,none)]⟩
theorem x4:xf Tryz.prog 4=some F4:=by kernel_rfl
theorem con4 {s:State} {n:Int}:Con Tryz.prog 4 [.agg (encZ s),.int .i64 n] (.bool true,[],[]):=by
  cases hf:few s with
  | false =>
    refine mcb_of_vc mix x4 (by simp [F4]) fun hw _=>?_
    clear hw
    repeat' with_reducible first|refine gTn_of (fun h=>?_) (fun h=>?_)|refine gT_of (fun h=>?_) (fun h=>?_)|refine caseTn_of (fun h=>?_) (fun h=>?_)|refine caseT_of (fun h=>?_) (fun h=>?_)|refine FN ?_ ?_ ?_ ?_ rfl ?_|refine kv_ifn ?_ ?_|refine kv_if ?_ ?_|refine k_if ?_ ?_|refine IA ?_ ?_ ?_|refine L1 ?_ ?_|refine L2 ?_ ?_|refine L3 ?_ ?_ ?_ ?_|refine L4 ?_ ?_|refine L5 ?_ ?_ ?_ ?_ ?_|refine L6 ?_ ?_ ?_ ?_ ?_|refine AC.p0 con14 ?_ (by simp -implicitDefEqProofs only [qU,pure_encZ]; done) ?_ ?_|refine AC.p0 (con15s ) ?_ (by simp -implicitDefEqProofs only [qU,pure_encZ]; done) ?_ ?_|refine AC.p0 (con16s ?_) ?_ (by simp -implicitDefEqProofs only [qU,pure_encZ]; done) ?_ ?_|simp -implicitDefEqProofs only [F4,qA,ld_0,ld_pv,st_0,doEqs,qU,List.reduceReplicate,Nat.reduceAdd,Nat.reduceSub,Nat.reduceLeDiff,Nat.reduceEqDiff,Nat.reduceMul,reduceIte,reduceCtorEq,qI,Nat.reduceLT,Nat.reduceBEq,up_s,Int.toNat_natCast,encT,qZ,splice_c,sp_allZ,pt_now,pt_thr,encI,Int.natCast_zero,Int.reduceEq,Int.reduceNe, *]
    all_goals first
      | exact Wk.refl _
      | trace_state
  | true =>
  have hb5:=few_k (k:=100000) hf (by omega)
  by_cases he:(tkTick s n).2.2=0
  · obtain ⟨k1,k2,k3,k4⟩:=tick_right he
    have hfab:=fab_iff.1 k1
    have hea:=fun i hi=>late_each (n:=n) hfab (i:=i) hi
    have hfa:=fresh_all (n:=n) hfab
    have hnw:(tkFold (tkAt s (s.now+n)) (tkIds s n)).now=s.now+n:=fold_now _ _
    have hln:(tkFold (tkAt s (s.now+n)) (tkIds s n)).threads.length=s.threads.length:=fold_len _ _
    generalize tkFold (tkAt s (s.now+n)) (tkIds s n)=A at hea hfa hnw hln k4
    clear he hfab k1 k2 k3
    refine mcb_of_vc mix x4 (by simp [F4]) fun hw _=>?_
    clear hw
    repeat' with_reducible first|refine gTn_of (fun h=>?_) (fun h=>?_)|refine gT_of (fun h=>?_) (fun h=>?_)|refine caseTn_of (fun h=>?_) (fun h=>?_)|refine caseT_of (fun h=>?_) (fun h=>?_)|refine FN ?_ ?_ ?_ ?_ rfl ?_|refine kv_ifn ?_ ?_|refine kv_if ?_ ?_|refine k_if ?_ ?_|refine IA ?_ ?_ ?_|refine L1 ?_ ?_|refine L2 ?_ ?_|refine L3 ?_ ?_ ?_ ?_|refine L4 ?_ ?_|refine L5 ?_ ?_ ?_ ?_ ?_|refine L6 ?_ ?_ ?_ ?_ ?_|refine AC.p0 con14 ?_ (by simp -implicitDefEqProofs only [qU,pure_encZ]; done) ?_ ?_|refine AC.p0 (con15s ) ?_ (by simp -implicitDefEqProofs only [qU,pure_encZ]; done) ?_ ?_|refine AC.p0 (con16s ?_) ?_ (by simp -implicitDefEqProofs only [qU,pure_encZ]; done) ?_ ?_|simp -implicitDefEqProofs only [F4,qA,ld_0,ld_pv,st_0,doEqs,qU,List.reduceReplicate,Nat.reduceAdd,Nat.reduceSub,Nat.reduceLeDiff,Nat.reduceEqDiff,Nat.reduceMul,reduceIte,reduceCtorEq,qI,Nat.reduceLT,Nat.reduceBEq,up_s,Int.toNat_natCast,encT,qZ,splice_c,sp_allZ,pt_now,pt_thr,encI,Int.natCast_zero,Int.reduceEq,Int.reduceNe, *]
    all_goals first
      | exact hb5
      | refine lm_of 6 (fun i:Nat=>nl 1 (some (.int .i64 n) :: some (.ptr 2 0 0) :: nl 1 (some (.bool false) :: some (.bool true) :: some (.ptr 3 0 0) :: some (.slv 1 ((tkIds s n).map encI)) :: some (.int .i64 0) :: some (.int .i64 (freshN s A i)) :: some (.int .i64 i) :: nl 122 []))) (fun i=>[(2,.rows 33 20 [encZ s]),(3,.rows 33 20 [encZ A])]) (fun i=>i≤s.threads.length) (fun i=>s.threads.length - i) [] [(1,2),(225,3)] 0 (by omega) ?_ ?_ ?_ ?_ ?_ ?_
      | trace_state
    rotate_right
    · intro i hi
      have hl200:s.threads.length≤200:=(few_bd hf).2.2.2.2.2.1
      have hfl:=freshN_le s A i
      simp only [all_some,all_none,all_nil,nl_s,nl_0]
      intros
      rcases Nat.lt_or_eq_of_le hi with hlt | heq
      · have hd:((i:Int)<(s.threads.length:Int))=True:=by simp; omega
        have hE:=hea i hlt
        have hS:freshN s A (i+1)=freshN s A i+(if freshT (s.threads.getD i default) (A.threads.getD i default)=true then 1 else 0):=rfl
        have hwi:IntKind.wrap .i64 ((i:Int)+1)=((i+1:Nat):Int):=by rw [wrap64 (by omega) (by omega)]; omega
        have hwf:IntKind.wrap .i64 ((freshN s A i:Int)+1)=((freshN s A i+1:Nat):Int):=by rw [wrap64 (by omega) (by omega)]; omega
        clear hea hfa k4
        obtain ⟨t,ht⟩:∃ t,s.threads.getD i default=t:=⟨_,rfl⟩
        obtain ⟨u,hu⟩:∃ u,A.threads.getD i default=u:=⟨_,rfl⟩
        rw [ht,hu] at hE hS
        rcases hE with ⟨f1,f2,f3,f4,f5,f6,f7⟩ | ⟨f1,f2,f3⟩
        · rw [if_pos f1] at hS
          have f5':(t.st=0)=False:=by simpa using f5
          have f7':(t.untl≤s.now+n)=True:=by simpa using f7
          clear f1 f5 f7
          have f6':t.kind=3∨t.kind=6:=by simpa [opTimed] using f6
          clear f6
          rcases f6' with f6 | f6
          · repeat' with_reducible first | refine gTn_of (fun h=>?_) (fun h=>?_) | refine gT_of (fun h=>?_) (fun h=>?_) | refine caseTn_of (fun h=>?_) (fun h=>?_) | refine caseT_of (fun h=>?_) (fun h=>?_) | refine FN ?_ ?_ ?_ ?_ rfl ?_ | refine kv_ifn ?_ ?_ | refine kv_if ?_ ?_ | refine k_if ?_ ?_ | refine IA ?_ ?_ ?_ | refine L1 ?_ ?_ | refine L2 ?_ ?_ | refine L3 ?_ ?_ ?_ ?_ | refine L4 ?_ ?_ | refine L5 ?_ ?_ ?_ ?_ ?_ | refine L6 ?_ ?_ ?_ ?_ ?_ | refine AC.p0 con14 ?_ (by simp -implicitDefEqProofs only [qU,pure_encZ]; done) ?_ ?_ | refine AC.p0 (con15s ) ?_ (by simp -implicitDefEqProofs only [qU,pure_encZ]; done) ?_ ?_ | refine AC.p0 (con16s ?_) ?_ (by simp -implicitDefEqProofs only [qU,pure_encZ]; done) ?_ ?_ | refine ia_of (d:=default) ?_ ?_ | refine rm_of [] [(2,2),(3,3)] (i+1) ?_ ?_ ?_ ?_ ?_ ?_ | simp -implicitDefEqProofs only [F4,qA,ld_0,ld_pv,st_0,doEqs,qU,List.reduceReplicate,Nat.reduceAdd,Nat.reduceSub,Nat.reduceLeDiff,Nat.reduceEqDiff,Nat.reduceMul,reduceIte,reduceCtorEq,qI,Nat.reduceLT,Nat.reduceBEq,up_s,Int.toNat_natCast,encT,qZ,splice_c,sp_allZ,pt_now,pt_thr,encI,Int.natCast_zero,Int.reduceEq,Int.reduceNe,lm_normal,lm_exit,lm_ret,nl_s,nl_0, *]
            all_goals first
              | exact hb5
              | exact Wk.refl _
              | omega
              | exact ⟨by omega,by omega⟩
              | (constructor <;> omega)
              | rfl
              | (exfalso; revert f3'; simp [opTimed, *]; done)
              | (rw [hS]; simp [*]; done)
              | (simp [*]; done)
              | trace_state
          · repeat' with_reducible first | refine gTn_of (fun h=>?_) (fun h=>?_) | refine gT_of (fun h=>?_) (fun h=>?_) | refine caseTn_of (fun h=>?_) (fun h=>?_) | refine caseT_of (fun h=>?_) (fun h=>?_) | refine FN ?_ ?_ ?_ ?_ rfl ?_ | refine kv_ifn ?_ ?_ | refine kv_if ?_ ?_ | refine k_if ?_ ?_ | refine IA ?_ ?_ ?_ | refine L1 ?_ ?_ | refine L2 ?_ ?_ | refine L3 ?_ ?_ ?_ ?_ | refine L4 ?_ ?_ | refine L5 ?_ ?_ ?_ ?_ ?_ | refine L6 ?_ ?_ ?_ ?_ ?_ | refine AC.p0 con14 ?_ (by simp -implicitDefEqProofs only [qU,pure_encZ]; done) ?_ ?_ | refine AC.p0 (con15s ) ?_ (by simp -implicitDefEqProofs only [qU,pure_encZ]; done) ?_ ?_ | refine AC.p0 (con16s ?_) ?_ (by simp -implicitDefEqProofs only [qU,pure_encZ]; done) ?_ ?_ | refine ia_of (d:=default) ?_ ?_ | refine rm_of [] [(2,2),(3,3)] (i+1) ?_ ?_ ?_ ?_ ?_ ?_ | simp -implicitDefEqProofs only [F4,qA,ld_0,ld_pv,st_0,doEqs,qU,List.reduceReplicate,Nat.reduceAdd,Nat.reduceSub,Nat.reduceLeDiff,Nat.reduceEqDiff,Nat.reduceMul,reduceIte,reduceCtorEq,qI,Nat.reduceLT,Nat.reduceBEq,up_s,Int.toNat_natCast,encT,qZ,splice_c,sp_allZ,pt_now,pt_thr,encI,Int.natCast_zero,Int.reduceEq,Int.reduceNe,lm_normal,lm_exit,lm_ret,nl_s,nl_0, *]
            all_goals first
              | exact hb5
              | exact Wk.refl _
              | omega
              | exact ⟨by omega,by omega⟩
              | (constructor <;> omega)
              | rfl
              | (exfalso; revert f3'; simp [opTimed, *]; done)
              | (rw [hS]; simp [*]; done)
              | (simp [*]; done)
              | trace_state
        · subst f2
          rw [if_neg (by rw [f1]; decide)] at hS
          clear f1
          cases hq:u.late with
          | true =>
            clear f3
            repeat' with_reducible first|refine gTn_of (fun h=>?_) (fun h=>?_)|refine gT_of (fun h=>?_) (fun h=>?_)|refine caseTn_of (fun h=>?_) (fun h=>?_)|refine caseT_of (fun h=>?_) (fun h=>?_)|refine FN ?_ ?_ ?_ ?_ rfl ?_|refine kv_ifn ?_ ?_|refine kv_if ?_ ?_|refine k_if ?_ ?_|refine IA ?_ ?_ ?_|refine L1 ?_ ?_|refine L2 ?_ ?_|refine L3 ?_ ?_ ?_ ?_|refine L4 ?_ ?_|refine L5 ?_ ?_ ?_ ?_ ?_|refine L6 ?_ ?_ ?_ ?_ ?_|refine AC.p0 con14 ?_ (by simp -implicitDefEqProofs only [qU,pure_encZ]; done) ?_ ?_|refine AC.p0 (con15s ) ?_ (by simp -implicitDefEqProofs only [qU,pure_encZ]; done) ?_ ?_|refine AC.p0 (con16s ?_) ?_ (by simp -implicitDefEqProofs only [qU,pure_encZ]; done) ?_ ?_|refine ia_of (d:=default) ?_ ?_|refine rm_of [] [(2,2),(3,3)] (i+1) ?_ ?_ ?_ ?_ ?_ ?_|simp -implicitDefEqProofs only [F4,qA,ld_0,ld_pv,st_0,doEqs,qU,List.reduceReplicate,Nat.reduceAdd,Nat.reduceSub,Nat.reduceLeDiff,Nat.reduceEqDiff,Nat.reduceMul,reduceIte,reduceCtorEq,qI,Nat.reduceLT,Nat.reduceBEq,up_s,Int.toNat_natCast,encT,qZ,splice_c,sp_allZ,pt_now,pt_thr,encI,Int.natCast_zero,Int.reduceEq,Int.reduceNe,lm_normal,lm_exit,lm_ret,nl_s,nl_0, *]
            all_goals first
              | exact hb5
              | exact Wk.refl _
              | omega
              | exact ⟨by omega,by omega⟩
              | (constructor <;> omega)
              | rfl
              | (exfalso; revert f3'; simp [opTimed, *]; done)
              | (rw [hS]; simp [*]; done)
              | (simp [*]; done)
              | trace_state
          | false =>
            have f3':(opTimed u.kind && decide (u.st≠0) && decide (u.untl≤s.now+n))=false:=by simpa [hq] using f3
            clear f3
            repeat' with_reducible first|refine gTn_of (fun h=>?_) (fun h=>?_)|refine gT_of (fun h=>?_) (fun h=>?_)|refine caseTn_of (fun h=>?_) (fun h=>?_)|refine caseT_of (fun h=>?_) (fun h=>?_)|refine FN ?_ ?_ ?_ ?_ rfl ?_|refine kv_ifn ?_ ?_|refine kv_if ?_ ?_|refine k_if ?_ ?_|refine IA ?_ ?_ ?_|refine L1 ?_ ?_|refine L2 ?_ ?_|refine L3 ?_ ?_ ?_ ?_|refine L4 ?_ ?_|refine L5 ?_ ?_ ?_ ?_ ?_|refine L6 ?_ ?_ ?_ ?_ ?_|refine AC.p0 con14 ?_ (by simp -implicitDefEqProofs only [qU,pure_encZ]; done) ?_ ?_|refine AC.p0 (con15s ) ?_ (by simp -implicitDefEqProofs only [qU,pure_encZ]; done) ?_ ?_|refine AC.p0 (con16s ?_) ?_ (by simp -implicitDefEqProofs only [qU,pure_encZ]; done) ?_ ?_|refine ia_of (d:=default) ?_ ?_|refine rm_of [] [(2,2),(3,3)] (i+1) ?_ ?_ ?_ ?_ ?_ ?_|simp -implicitDefEqProofs only [F4,qA,ld_0,ld_pv,st_0,doEqs,qU,List.reduceReplicate,Nat.reduceAdd,Nat.reduceSub,Nat.reduceLeDiff,Nat.reduceEqDiff,Nat.reduceMul,reduceIte,reduceCtorEq,qI,Nat.reduceLT,Nat.reduceBEq,up_s,Int.toNat_natCast,encT,qZ,splice_c,sp_allZ,pt_now,pt_thr,encI,Int.natCast_zero,Int.reduceEq,Int.reduceNe,lm_normal,lm_exit,lm_ret,nl_s,nl_0, *]
            all_goals first
              | exact hb5
              | exact Wk.refl _
              | omega
              | exact ⟨by omega,by omega⟩
              | (constructor <;> omega)
              | rfl
              | (exfalso; revert f3'; simp [opTimed, *]; done)
              | (rw [hS]; simp [*]; done)
              | (simp [*]; done)
              | trace_state
      · have hd:((i:Int)<(s.threads.length:Int))=False:=by simp; omega
        subst heq
        clear hea
        repeat' with_reducible first|refine gTn_of (fun h=>?_) (fun h=>?_)|refine gT_of (fun h=>?_) (fun h=>?_)|refine caseTn_of (fun h=>?_) (fun h=>?_)|refine caseT_of (fun h=>?_) (fun h=>?_)|refine FN ?_ ?_ ?_ ?_ rfl ?_|refine kv_ifn ?_ ?_|refine kv_if ?_ ?_|refine k_if ?_ ?_|refine IA ?_ ?_ ?_|refine L1 ?_ ?_|refine L2 ?_ ?_|refine L3 ?_ ?_ ?_ ?_|refine L4 ?_ ?_|refine L5 ?_ ?_ ?_ ?_ ?_|refine L6 ?_ ?_ ?_ ?_ ?_|refine AC.p0 con14 ?_ (by simp -implicitDefEqProofs only [qU,pure_encZ]; done) ?_ ?_|refine AC.p0 (con15s ) ?_ (by simp -implicitDefEqProofs only [qU,pure_encZ]; done) ?_ ?_|refine AC.p0 (con16s ?_) ?_ (by simp -implicitDefEqProofs only [qU,pure_encZ]; done) ?_ ?_|simp -implicitDefEqProofs only [F4,qA,ld_0,ld_pv,st_0,doEqs,qU,List.reduceReplicate,Nat.reduceAdd,Nat.reduceSub,Nat.reduceLeDiff,Nat.reduceEqDiff,Nat.reduceMul,reduceIte,reduceCtorEq,qI,Nat.reduceLT,Nat.reduceBEq,up_s,Int.toNat_natCast,encT,qZ,splice_c,sp_allZ,pt_now,pt_thr,encI,Int.natCast_zero,Int.reduceEq,Int.reduceNe,lm_normal,lm_exit,lm_ret,nl_s,nl_0, *]
        all_goals first
          | exact hb5
          | exact Wk.refl _
          | omega
          | exact ⟨by omega,by omega⟩
          | (constructor <;> omega)
          | rfl
          | (exfalso; revert f3'; simp [opTimed, *]; done)
          | (rw [hS]; simp [*]; done)
          | (simp [*]; done)
          | trace_state
    all_goals first
      | omega
      | (simp -implicitDefEqProofs only [qA,ld_0,ld_pv,st_0,splice,doEqs,qU,List.reduceReplicate,Nat.reduceAdd,Nat.reduceSub,Nat.reduceLeDiff,Nat.reduceEqDiff,Nat.reduceMul,reduceIte,reduceCtorEq,qI,Nat.reduceLT,Nat.reduceBEq,qZ,nl_s,nl_0]; first | done | (simp; done))
      | (simp only [freshN]; (simp -implicitDefEqProofs only [qA,ld_0,ld_pv,st_0,splice,doEqs,qU,List.reduceReplicate,Nat.reduceAdd,Nat.reduceSub,Nat.reduceLeDiff,Nat.reduceEqDiff,Nat.reduceMul,reduceIte,reduceCtorEq,qI,Nat.reduceLT,Nat.reduceBEq,qZ,nl_s,nl_0]; first | done | (simp; done)))
      | trace_state
  · obtain ⟨k1,k2,k3⟩:=tick_err he
    refine mcb_of_vc mix x4 (by simp [F4]) fun hw _=>?_
    clear hw
    repeat' with_reducible first|refine gTn_of (fun h=>?_) (fun h=>?_)|refine gT_of (fun h=>?_) (fun h=>?_)|refine caseTn_of (fun h=>?_) (fun h=>?_)|refine caseT_of (fun h=>?_) (fun h=>?_)|refine FN ?_ ?_ ?_ ?_ rfl ?_|refine kv_ifn ?_ ?_|refine kv_if ?_ ?_|refine k_if ?_ ?_|refine IA ?_ ?_ ?_|refine L1 ?_ ?_|refine L2 ?_ ?_|refine L3 ?_ ?_ ?_ ?_|refine L4 ?_ ?_|refine L5 ?_ ?_ ?_ ?_ ?_|refine L6 ?_ ?_ ?_ ?_ ?_|refine AC.p0 con14 ?_ (by simp -implicitDefEqProofs only [qU,pure_encZ]; done) ?_ ?_|refine AC.p0 (con15s ) ?_ (by simp -implicitDefEqProofs only [qU,pure_encZ]; done) ?_ ?_|refine AC.p0 (con16s ?_) ?_ (by simp -implicitDefEqProofs only [qU,pure_encZ]; done) ?_ ?_|simp -implicitDefEqProofs only [F4,qA,ld_0,ld_pv,st_0,doEqs,qU,List.reduceReplicate,Nat.reduceAdd,Nat.reduceSub,Nat.reduceLeDiff,Nat.reduceEqDiff,Nat.reduceMul,reduceIte,reduceCtorEq,qI,Nat.reduceLT,Nat.reduceBEq,up_s,Int.toNat_natCast,encT,qZ,splice_c,sp_allZ,pt_now,pt_thr,encI,Int.natCast_zero,Int.reduceEq,Int.reduceNe, *]
    all_goals first
      | exact hb5
      | exact Wk.refl _
      | (refine Wk.of_eq ?_; simp; done)
      | trace_state

end Go.Sak
