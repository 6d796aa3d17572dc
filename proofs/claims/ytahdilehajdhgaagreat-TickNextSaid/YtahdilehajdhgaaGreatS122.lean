/- Part S122 of the proofs about the program: Pa, K227. Conditions: none. -/
import Derived.Test.YtahdilehajdhgaaGreatS120
import Derived.Test.YtahdilehajdhgaaGreatS118
import Derived.Test.YtahdilehajdhgaaGreatS04
import Derived.Test.YtahdilehajdhgaaGreatProg
import Derived.KernelRfl
namespace Go.Sak
open Go Go.RowKit
set_option linter.unusedVariables false
set_option linter.unusedSimpArgs false
theorem dues_fab {s:State} (h:duesOf s≠[]):fabCheck s=true:=by
  cases hc:fabCheck s with
  | true=>rfl
  | false=>exact absurd (by unfold duesOf; rw [hc]; rfl) h
theorem next_none {s:State} (h:(tkNext s).2=false):duesOf s=[]∧(tkNext s).1=0:=by
  unfold tkNext at h ⊢
  cases hd:duesOf s with
  | nil=>exact ⟨rfl,rfl⟩
  | cons d l =>
    have:=first_ok (dues_ok s) (by rw [hd]; simp)
    rw [this] at h; cases h
theorem next_some {s:State} (h:(tkNext s).2=true):∃ d l,duesOf s=d :: l∧(tkNext s).1=d.tm∧fabCheck s=true∧0≤d.tm∧d.tm≤1099511627776:=by
  unfold tkNext at h ⊢
  cases hd:duesOf s with
  | nil=>rw [hd] at h; cases h
  | cons d l =>
    have hm:d∈duesOf s:=by rw [hd]; exact List.mem_cons_self ..
    have h1:=((dueCheck_iff.1 (dues_ok s)).1 d hm).1
    simp only [dTime,Bool.and_eq_true,decide_eq_true_eq] at h1
    refine ⟨d,l,rfl,?_,dues_fab (by rw [hd]; simp),h1⟩
    have:=first_ok (dues_ok s) (by rw [hd]; simp)
    rw [hd] at this
    show (dueFirst (d :: l)).1.tm=_
    rw [this]; rfl
theorem none_tk {s:State} {n:Int} (h:duesOf s=[]):(tkTick s n).2.1=[]:=by
  by_cases he:(tkTick s n).2.2=0
  · obtain ⟨_,_,_,e⟩:=tick_right he
    rw [e]; exact none_ids h
  · exact (tick_err he).2.1
theorem at_next {s:State} {n:Int} {d:Due} {l:List Due} (hc:fabCheck s=true) (h:duesOf s=d :: l) (h0:0≤n) (h1:n≤1099511627776 - s.now) (h2:d.tm≤s.now+n) :
    ∃ r,(tkTick s n).2.1=d.id :: r∧(tkTick s n).2.2=0:=by
  unfold tkTick
  rw [if_neg (by rw [hc]; decide),if_neg (by omega)]
  refine ⟨lateIds l (s.now+n),?_,rfl⟩
  show tkIds s n=_
  rw [ids_eq,h]
  unfold lateIds
  rw [List.filter_cons_of_pos (by simpa using h2)]; rfl
theorem ahead_next {s:State} {n:Int} {d:Due} {l:List Due} (h:duesOf s=d :: l) (h2:s.now+n<d.tm):(tkTick s n).2.1=[]:=by
  by_cases he:(tkTick s n).2.2=0
  · obtain ⟨_,_,_,e⟩:=tick_right he
    rw [e]
    show tkIds s n=[]
    rw [ids_eq]
    unfold lateIds
    have hp:=dues_pw s
    have : (duesOf s).filter (fun d=>decide (d.tm≤s.now+n))=[]:=by
      refine List.filter_eq_nil_iff.2 fun x hx=>?_
      rw [h] at hp hx
      have:d.tm≤x.tm:=by
        rcases List.mem_cons.1 hx with rfl | hx'
        · exact Int.le_refl _
        · have:=dLe_iff.1 ((List.pairwise_cons.1 hp).1 x hx'); omega
      simp; omega
    rw [this]; rfl
  · exact (tick_err he).2.1
end Go.Sak
namespace Go.Sak
open Go Go.RowKit Go.Proofs
set_option linter.unusedVariables false
set_option linter.unusedSimpArgs false
set_option maxRecDepth 10000
set_option maxHeartbeats 8000000
def F6:AFn:=⟨118,(.seq (.reg [o1 1 (.box 33 0),o1 2 (.mv (.const (.bool false)))]) (.seq (.reg [o1 16 (.call 14 []),o1 3 (.mv 16)]) (.seq (.seq (.reg [o1 17 (.ld 20 true 1),o1 18 (.call 15 [17]),o1 19 (.not 18)]) (.cond 19 (.seq (.reg [o1 20 (.mv 3),o1 2 (.mv 20)]) .ret) .skip)) (.seq (.reg [o1 22 (.ld 20 true 1),o1 23 (.call 20 [22]),o1 21 (.mv 23),o1 24 (.ext 21 0),o1 25 (.ext 21 1),o1 4 (.mv 24),o1 5 (.mv 25)]) (.seq (.reg [o1 26 (.ld 20 true 1),o1 27 (.call 21 [26]),o1 6 (.mv 27)]) (.seq (.seq (.reg [o1 28 (.mv 5),o1 29 (.not 28)]) (.cond 29 (.seq (.reg [o1 31 (.ld 20 true 1),o1 32 (.call 16 [31,(ci 1073741824)]),o1 30 (.mv 32),o1 33 (.ext 30 0),o1 34 (.ext 30 1),o1 35 (.ext 30 2),o1 7 (.alloc 33 [(.int .i64 0),(.int .i64 0),(.int .i64 0),(.int .i64 0),(.int .i64 0),(.int .i64 0),(.bool false),(.int .i64 0),(.int .i64 0),(.int .i64 0),.slnil,.slnil,.slnil,(.int .i64 0),.slnil,(.int .i64 0),.slnil,(.int .i64 0),.slnil,.slnil]),o2 (.st 20 7 33),o1 8 (.mv 34),o1 9 (.mv 35)]) (.seq (.reg [o1 36 (.mv 3),o1 37 (.mv 36),o3 38 (.mv 6) 37,o3 39 (.len 38) 37,o3 40 (.bin .eql 39 (ci 0)) 37,o1 41 (.pick 37 40 (.const (.bool false))),o1 42 (.mv 41),o3 43 (.mv 8) 42,o3 44 (.len 43) 42,o3 45 (.bin .eql 44 (ci 0)) 42,o1 46 (.pick 42 45 (.const (.bool false))),o1 47 (.mv 46),o3 48 (.mv 4) 47,o3 49 (.bin .eql 48 (ci 0)) 47,o1 50 (.pick 47 49 (.const (.bool false))),o1 2 (.mv 50)]) .ret)) .skip)) (.seq (.reg [o1 52 (.ld 20 true 1),o1 53 (.mv 4),o1 54 (.faddr 17 1),o1 55 (.ld 1 false 54),o1 56 (.bin .sub 53 55),o1 57 (.mx 56 (ci 0)),o1 58 (.call 16 [52,57]),o1 51 (.mv 58),o1 59 (.ext 51 0),o1 60 (.ext 51 1),o1 61 (.ext 51 2),o1 10 (.alloc 33 [(.int .i64 0),(.int .i64 0),(.int .i64 0),(.int .i64 0),(.int .i64 0),(.int .i64 0),(.bool false),(.int .i64 0),(.int .i64 0),(.int .i64 0),.slnil,.slnil,.slnil,(.int .i64 0),.slnil,(.int .i64 0),.slnil,(.int .i64 0),.slnil,.slnil]),o2 (.st 20 10 59),o1 11 (.mv 60),o1 12 (.mv 61)]) (.seq (.reg [o1 63 (.ld 20 true 1),o1 64 (.mv 4),o1 65 (.faddr 17 1),o1 66 (.ld 1 false 65),o1 67 (.bin .sub 64 66),o1 68 (.bin .sub 67 (ci 1)),o1 69 (.mx 68 (ci 0)),o1 70 (.call 16 [63,69]),o1 62 (.mv 70),o1 71 (.ext 62 0),o1 72 (.ext 62 1),o1 73 (.ext 62 2),o1 13 (.alloc 33 [(.int .i64 0),(.int .i64 0),(.int .i64 0),(.int .i64 0),(.int .i64 0),(.int .i64 0),(.bool false),(.int .i64 0),(.int .i64 0),(.int .i64 0),.slnil,.slnil,.slnil,(.int .i64 0),.slnil,(.int .i64 0),.slnil,(.int .i64 0),.slnil,.slnil]),o2 (.st 20 13 71),o1 14 (.mv 72),o1 15 (.mv 73)]) (.seq (.regT [o1 74 (.mv 3),o1 75 (.mv 74),o3 76 (.mv 12) 75,o3 77 (.bin .eql 76 (ci 0)) 75,o1 78 (.pick 75 77 (.const (.bool false))),o1 79 (.mv 78),o3 80 (.mv 11) 79,o3 81 (.len 80) 79,o3 82 (.bin .gtr 81 (ci 0)) 79,o1 83 (.pick 79 82 (.const (.bool false))),o1 84 (.mv 83),o3 85 (.mv 6) 84,o3 86 (.len 85) 84,o3 87 (.bin .gtr 86 (ci 0)) 84,o1 88 (.pick 84 87 (.const (.bool false))),o1 89 (.mv 88),o3 90 (.mv 6) 89,o3 91 (.iaddr 2 90 (ci 0)) 89,o3 92 (.faddr 0 91) 89,o3 93 (.ld 1 false 92) 89,o3 94 (.mv 4) 89,o3 95 (.bin .eql 93 94) 89,o1 96 (.pick 89 95 (.const (.bool false))),o1 97 (.mv 96),o3 98 (.mv 11) 97,o3 99 (.iaddr 1 98 (ci 0)) 97,o3 100 (.ld 1 false 99) 97,o3 101 (.mv 6) 97,o3 102 (.iaddr 2 101 (ci 0)) 97,o3 103 (.faddr 1 102) 97,o3 104 (.ld 1 false 103) 97,o3 105 (.bin .eql 100 104) 97,o1 106 (.pick 97 105 (.const (.bool false))),o1 107 (.mv 106),o3 108 (.mv 4) 107,o3 109 (.faddr 17 1) 107,o3 110 (.ld 1 false 109) 107,o3 111 (.bin .leq 108 110) 107,o3 112 (.mv 111) 107,o4 113 (.mv 14) 112,o4 114 (.len 113) 112,o4 115 (.bin .eql 114 (ci 0)) 112,o3 116 (.pick 112 (.const (.bool true)) 115) 107,o1 117 (.pick 107 116 (.const (.bool false))),o1 2 (.mv 117)] [(25,28),(26,28),(25,29),(26,29),(25,30),(26,30)]) .ret))))))))),[(2,none)]⟩
theorem x6:xf Tryz.prog 6=some F6:=by kernel_rfl
theorem ia_cons {sz:Nat} {f:Nat→Option Blk} {r:List AV} {l:List (List AV)}:doIaddr f sz (.slv sz (r :: l)) (.int .i64 0)=some { v:=.pv r }:=by
  exact if_pos (c:=sz=sz∧(0:Int)≤0∧(0:Int)<((r :: l).length:Int)) ⟨rfl,Int.le_refl _,by simp⟩
theorem gt_cons (k:Nat):decide (((k+1:Nat):Int) > 0)=true:=decide_eq_true (by omega)
theorem con6 {s:State}:Con Tryz.prog 6 [.agg (encZ s)] (.bool true,[],[]):=by
  cases hf:few s with
  | false =>
    refine mcb_of_vc mix x6 (by simp [F6]) fun hw _=>?_
    clear hw
    repeat' with_reducible first|refine gTn_of (fun h=>?_) (fun h=>?_)|refine gT_of (fun h=>?_) (fun h=>?_)|refine caseTn_of (fun h=>?_) (fun h=>?_)|refine caseT_of (fun h=>?_) (fun h=>?_)|refine FN ?_ ?_ ?_ ?_ rfl ?_|refine kv_ifn ?_ ?_|refine kv_if ?_ ?_|refine k_if ?_ ?_|refine IA ?_ ?_ ?_|refine L1 ?_ ?_|refine L2 ?_ ?_|refine L3 ?_ ?_ ?_ ?_|refine L4 ?_ ?_|refine L5 ?_ ?_ ?_ ?_ ?_|refine L6 ?_ ?_ ?_ ?_ ?_|refine AC.p0 con14 ?_ (by simp -implicitDefEqProofs only [qU,pure_encZ]; done) ?_ ?_|refine AC.p0 (con15s ) ?_ (by simp -implicitDefEqProofs only [qU,pure_encZ]; done) ?_ ?_|refine AC.p0 (con20s ?_) ?_ (by simp -implicitDefEqProofs only [qU,pure_encZ]; done) ?_ ?_|refine AC.p0 (con21s ?_) ?_ (by simp -implicitDefEqProofs only [qU,pure_encZ]; done) ?_ ?_|refine AC.p0 (con16s ?_) ?_ (by simp -implicitDefEqProofs only [qU,pure_encZ]; done) ?_ ?_|refine ia_of (d:=default) ?_ ?_|simp -implicitDefEqProofs only [F6,qA,ld_0,ld_pv,st_0,doEqs,qU,List.reduceReplicate,Nat.reduceAdd,Nat.reduceSub,Nat.reduceLeDiff,Nat.reduceEqDiff,Nat.reduceMul,reduceIte,reduceCtorEq,qI,Nat.reduceLT,Nat.reduceBEq,up_s,Int.toNat_natCast,encT,qZ,splice_c,sp_allZ,pt_now,pt_thr,encI,encD,Int.natCast_zero,Int.reduceEq,Int.reduceNe,doMx,ia_cons,gt_cons, *]
    all_goals first
      | exact puress_map pure_encD _
      | exact Wk.refl _
      | omega
      | (refine Wk.of_eq ?_; simp [*]; done)
      | (simp [*]; done)
      | trace_state
  | true =>
  have hb8:=few_k (k:=100000000) hf (by omega)
  have hb5:=few_k (k:=100000) hf (by omega)
  cases hi:(tkNext s).2 with
  | false =>
    obtain ⟨hd,ha⟩:=next_none hi
    have hl:=none_tk (s:=s) (n:=1073741824) hd
    refine mcb_of_vc mix x6 (by simp [F6]) fun hw _=>?_
    clear hw
    repeat' with_reducible first|refine gTn_of (fun h=>?_) (fun h=>?_)|refine gT_of (fun h=>?_) (fun h=>?_)|refine caseTn_of (fun h=>?_) (fun h=>?_)|refine caseT_of (fun h=>?_) (fun h=>?_)|refine FN ?_ ?_ ?_ ?_ rfl ?_|refine kv_ifn ?_ ?_|refine kv_if ?_ ?_|refine k_if ?_ ?_|refine IA ?_ ?_ ?_|refine L1 ?_ ?_|refine L2 ?_ ?_|refine L3 ?_ ?_ ?_ ?_|refine L4 ?_ ?_|refine L5 ?_ ?_ ?_ ?_ ?_|refine L6 ?_ ?_ ?_ ?_ ?_|refine AC.p0 con14 ?_ (by simp -implicitDefEqProofs only [qU,pure_encZ]; done) ?_ ?_|refine AC.p0 (con15s ) ?_ (by simp -implicitDefEqProofs only [qU,pure_encZ]; done) ?_ ?_|refine AC.p0 (con20s ?_) ?_ (by simp -implicitDefEqProofs only [qU,pure_encZ]; done) ?_ ?_|refine AC.p0 (con21s ?_) ?_ (by simp -implicitDefEqProofs only [qU,pure_encZ]; done) ?_ ?_|refine AC.p0 (con16s ?_) ?_ (by simp -implicitDefEqProofs only [qU,pure_encZ]; done) ?_ ?_|refine ia_of (d:=default) ?_ ?_|simp -implicitDefEqProofs only [F6,qA,ld_0,ld_pv,st_0,doEqs,qU,List.reduceReplicate,Nat.reduceAdd,Nat.reduceSub,Nat.reduceLeDiff,Nat.reduceEqDiff,Nat.reduceMul,reduceIte,reduceCtorEq,qI,Nat.reduceLT,Nat.reduceBEq,up_s,Int.toNat_natCast,encT,qZ,splice_c,sp_allZ,pt_now,pt_thr,encI,encD,Int.natCast_zero,Int.reduceEq,Int.reduceNe,doMx,ia_cons,gt_cons, *]
    all_goals first
      | exact hb5
      | exact hb8
      | exact puress_map pure_encD _
      | exact Wk.refl _
      | omega
      | (refine Wk.of_eq ?_; simp [*]; done)
      | (simp [*]; done)
      | trace_state
  | true =>
    obtain ⟨d,l,hd,ha,hc,d0,d1⟩:=next_some hi
    have hn:=now_ok hc
    have hw1:IntKind.wrap .i64 (d.tm - s.now)=d.tm - s.now:=wrap64 (by omega) (by omega)
    have hw2:IntKind.wrap .i64 (d.tm - s.now - 1)=d.tm - s.now - 1:=wrap64 (by omega) (by omega)
    by_cases hk:d.tm≤s.now
    · obtain ⟨r,t1,t2⟩:=at_next (n:=0) hc hd (by omega) (by omega) (by omega)
      have hx1:(if d.tm - s.now<0 then (0:Int) else d.tm - s.now)=0:=by split <;> omega
      have hx2:(if d.tm - s.now - 1<0 then (0:Int) else d.tm - s.now - 1)=0:=by split <;> omega
      clear hc d0 d1 hn
      refine mcb_of_vc mix x6 (by simp [F6]) fun hw _=>?_
      clear hw
      repeat' with_reducible first|refine gTn_of (fun h=>?_) (fun h=>?_)|refine gT_of (fun h=>?_) (fun h=>?_)|refine caseTn_of (fun h=>?_) (fun h=>?_)|refine caseT_of (fun h=>?_) (fun h=>?_)|refine FN ?_ ?_ ?_ ?_ rfl ?_|refine kv_ifn ?_ ?_|refine kv_if ?_ ?_|refine k_if ?_ ?_|refine IA ?_ ?_ ?_|refine L1 ?_ ?_|refine L2 ?_ ?_|refine L3 ?_ ?_ ?_ ?_|refine L4 ?_ ?_|refine L5 ?_ ?_ ?_ ?_ ?_|refine L6 ?_ ?_ ?_ ?_ ?_|refine AC.p0 con14 ?_ (by simp -implicitDefEqProofs only [qU,pure_encZ]; done) ?_ ?_|refine AC.p0 (con15s ) ?_ (by simp -implicitDefEqProofs only [qU,pure_encZ]; done) ?_ ?_|refine AC.p0 (con20s ?_) ?_ (by simp -implicitDefEqProofs only [qU,pure_encZ]; done) ?_ ?_|refine AC.p0 (con21s ?_) ?_ (by simp -implicitDefEqProofs only [qU,pure_encZ]; done) ?_ ?_|refine AC.p0 (con16s ?_) ?_ (by simp -implicitDefEqProofs only [qU,pure_encZ]; done) ?_ ?_|refine ia_of (d:=default) ?_ ?_|simp -implicitDefEqProofs only [F6,qA,ld_0,ld_pv,st_0,doEqs,qU,List.reduceReplicate,Nat.reduceAdd,Nat.reduceSub,Nat.reduceLeDiff,Nat.reduceEqDiff,Nat.reduceMul,reduceIte,reduceCtorEq,qI,Nat.reduceLT,Nat.reduceBEq,up_s,Int.toNat_natCast,encT,qZ,splice_c,sp_allZ,pt_now,pt_thr,encI,encD,Int.natCast_zero,Int.reduceEq,Int.reduceNe,doMx,ia_cons,gt_cons, *]
      all_goals first
        | exact hb5
        | exact hb8
        | exact puress_map pure_encD _
        | exact Wk.refl _
        | omega
        | (refine Wk.of_eq ?_; simp [*]; done)
        | (simp [*]; done)
        | trace_state
    · obtain ⟨r,t1,t2⟩:=at_next (n:=d.tm - s.now) hc hd (by omega) (by omega) (by omega)
      have t3:=ahead_next (n:=d.tm - s.now - 1) hd (by omega)
      have hx1:(if d.tm - s.now<0 then (0:Int) else d.tm - s.now)=d.tm - s.now:=by split <;> omega
      have hx2:(if d.tm - s.now - 1<0 then (0:Int) else d.tm - s.now - 1)=d.tm - s.now - 1:=by split <;> omega
      clear hc d0 d1 hn
      refine mcb_of_vc mix x6 (by simp [F6]) fun hw _=>?_
      clear hw
      repeat' with_reducible first|refine gTn_of (fun h=>?_) (fun h=>?_)|refine gT_of (fun h=>?_) (fun h=>?_)|refine caseTn_of (fun h=>?_) (fun h=>?_)|refine caseT_of (fun h=>?_) (fun h=>?_)|refine FN ?_ ?_ ?_ ?_ rfl ?_|refine kv_ifn ?_ ?_|refine kv_if ?_ ?_|refine k_if ?_ ?_|refine IA ?_ ?_ ?_|refine L1 ?_ ?_|refine L2 ?_ ?_|refine L3 ?_ ?_ ?_ ?_|refine L4 ?_ ?_|refine L5 ?_ ?_ ?_ ?_ ?_|refine L6 ?_ ?_ ?_ ?_ ?_|refine AC.p0 con14 ?_ (by simp -implicitDefEqProofs only [qU,pure_encZ]; done) ?_ ?_|refine AC.p0 (con15s ) ?_ (by simp -implicitDefEqProofs only [qU,pure_encZ]; done) ?_ ?_|refine AC.p0 (con20s ?_) ?_ (by simp -implicitDefEqProofs only [qU,pure_encZ]; done) ?_ ?_|refine AC.p0 (con21s ?_) ?_ (by simp -implicitDefEqProofs only [qU,pure_encZ]; done) ?_ ?_|refine AC.p0 (con16s ?_) ?_ (by simp -implicitDefEqProofs only [qU,pure_encZ]; done) ?_ ?_|refine ia_of (d:=default) ?_ ?_|simp -implicitDefEqProofs only [F6,qA,ld_0,ld_pv,st_0,doEqs,qU,List.reduceReplicate,Nat.reduceAdd,Nat.reduceSub,Nat.reduceLeDiff,Nat.reduceEqDiff,Nat.reduceMul,reduceIte,reduceCtorEq,qI,Nat.reduceLT,Nat.reduceBEq,up_s,Int.toNat_natCast,encT,qZ,splice_c,sp_allZ,pt_now,pt_thr,encI,encD,Int.natCast_zero,Int.reduceEq,Int.reduceNe,doMx,ia_cons,gt_cons, *]
      all_goals first
        | exact hb5
        | exact hb8
        | exact puress_map pure_encD _
        | exact Wk.refl _
        | omega
        | (refine Wk.of_eq ?_; simp [*]; done)
        | (simp [*]; done)
        | trace_state

end Go.Sak
