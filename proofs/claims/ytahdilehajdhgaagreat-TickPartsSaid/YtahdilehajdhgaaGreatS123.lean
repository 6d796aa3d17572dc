/- Part S123 of the proofs about the program: Pc, K228. Conditions: none. -/
import Derived.Test.YtahdilehajdhgaaGreatS120
import Derived.Test.YtahdilehajdhgaaGreatS118
import Derived.Test.YtahdilehajdhgaaGreatS04
import Derived.Test.YtahdilehajdhgaaGreatProg
import Derived.KernelRfl
namespace Go.Sak
open Go Go.RowKit
set_option linter.unusedVariables false
set_option linter.unusedSimpArgs false
theorem late_tkAt (s:State) (id n:Int):tkLate (tkAt s n) id=tkAt (tkLate s id) n:=by
  unfold tkLate
  have:me (tkAt s n) id=me s id:=rfl
  rw [this]
  split <;> rfl
theorem fold_tkAt:∀ (l:List Int) (s:State) (n:Int),tkFold (tkAt s n) l=tkAt (tkFold s l) n
  | [],s,n=>rfl
  | x :: l,s,n=>by
    show tkFold (tkLate (tkAt s n) x) l=tkAt (tkFold (tkLate s x) l) n
    rw [late_tkAt]; exact fold_tkAt l _ n
theorem fold_app (s:State) (k l:List Int):tkFold s (k ++ l)=tkFold (tkFold s k) l:=List.foldl_append
theorem tkAt_tkAt (s:State) (a b:Int):tkAt (tkAt s a) b=tkAt s b:=rfl
theorem fold_two (s:State) (a b:Int) (k l:List Int):tkFold (tkAt s b) (k ++ l)=tkFold (tkAt (tkFold (tkAt s a) k) b) l:=by
  rw [fold_tkAt (k ++ l) s b,fold_app,fold_tkAt k s a,tkAt_tkAt,fold_tkAt l _ b]
theorem lateTh_timed {t:Thread}:timedT (lateTh t)=false:=by
  unfold timedT; rw [lateTh_late]; simp
theorem dues_rest {s:State} {n:Int} (h:Fab s) (h0:0≤n) (h1:n≤1099511627776 - s.now):duesOf (tkFold (tkAt s (s.now+n)) (tkIds s n))=(duesOf s).filter fun d=>decide (s.now+n<d.tm):=by
  have ha:=tick_fab h h0 h1
  have hl:(tkFold (tkAt s (s.now+n)) (tkIds s n)).threads.length=s.threads.length:=fold_len _ _
  refine List.Perm.eq_of_pairwise (fun a b _ _ h k=>dLe_anti h k) (dues_pw _) ((dues_pw s).sublist List.filter_sublist) ?_
  have nd:∀ {u:State},(duesOf u).Nodup:=fun {u}=>by
    have:=(dueCheck_iff.1 (dues_ok u)).2.1
    exact List.Pairwise.imp (fun {a b} hab e=>hab (by rw [e])) (List.pairwise_map.1 this)
  refine (List.perm_ext_iff_of_nodup nd (nd.sublist List.filter_sublist)).2 fun d=>?_
  simp only [List.mem_filter,decide_eq_true_eq]
  rw [(dues_perm ha).mem_iff,(dues_perm h).mem_iff]
  simp only [List.mem_map]
  have key : ∀ x:Nat×Thread,x∈itemsT (tkFold (tkAt s (s.now+n)) (tkIds s n)).threads (tkFold (tkAt s (s.now+n)) (tkIds s n)).threads.length↔x∈itemsT s.threads s.threads.length∧s.now+n<x.2.untl:=by
    intro x
    rw [items_mem,items_mem]
    obtain ⟨i,t⟩:=x
    simp only
    by_cases hi:i<s.threads.length
    · have e1:(tkFold (tkAt s (s.now+n)) (tkIds s n)).threads[i]?=some ((tkFold (tkAt s (s.now+n)) (tkIds s n)).threads.getD i default):=getD_some (by omega)
      have e2:s.threads[i]?=some (s.threads.getD i default):=getD_some hi
      rw [e1,e2,tick_thr h hi]
      split
      · rename_i k
        constructor
        · rintro ⟨e,q⟩
          simp only [Option.some.injEq] at e
          rw [← e,lateTh_timed] at q; cases q
        · rintro ⟨⟨e,q⟩,r⟩
          simp only [Option.some.injEq] at e
          rw [← e] at r; exact absurd k.2 (by omega)
      · rename_i k
        constructor
        · rintro ⟨e,q⟩
          refine ⟨⟨e,q⟩,?_⟩
          simp only [Option.some.injEq] at e
          rw [e] at k
          have:¬ t.untl≤s.now+n:=fun hh=>k ⟨q,hh⟩
          omega
        · rintro ⟨⟨e,q⟩,_⟩; exact ⟨e,q⟩
    · have e1:(tkFold (tkAt s (s.now+n)) (tkIds s n)).threads[i]?=none:=List.getElem?_eq_none (by omega)
      have e2:s.threads[i]?=none:=List.getElem?_eq_none (by omega)
      rw [e1,e2]; simp
  constructor
  · rintro ⟨x,hx,rfl⟩
    obtain ⟨q1,q2⟩:=(key x).1 hx
    exact ⟨⟨x,q1,rfl⟩,q2⟩
  · rintro ⟨⟨x,hx,rfl⟩,q2⟩
    exact ⟨x,(key x).2 ⟨hx,q2⟩,rfl⟩
theorem cut_two {a b:Int} (hab:a≤b):∀ {l:List Due},l.Pairwise (fun x y=>dLe x y=true)→(l.filter fun d=>decide (d.tm≤a)) ++ ((l.filter fun d=>decide (a<d.tm)).filter fun d=>decide (d.tm≤b))=l.filter fun d=>decide (d.tm≤b)
  | [],_=>rfl
  | x :: l,h=>by
    obtain ⟨h1,h2⟩:=List.pairwise_cons.1 h
    have ih:=cut_two hab h2
    by_cases k:x.tm≤a
    · rw [List.filter_cons_of_pos (by simpa using k),List.filter_cons_of_neg (by simp; omega),List.filter_cons_of_pos (by simp; omega),List.cons_append,ih]
    · have e:(x :: l).filter (fun d=>decide (d.tm≤a))=[]:=by
        refine List.filter_eq_nil_iff.2 fun y hy=>?_
        have:x.tm≤y.tm:=by
          rcases List.mem_cons.1 hy with rfl | hy'
          · exact Int.le_refl _
          · have:=dLe_iff.1 (h1 y hy'); omega
        simp; omega
      have e2:(x :: l).filter (fun d=>decide (a<d.tm))=x :: l:=by
        refine List.filter_eq_self.2 fun y hy=>?_
        have:x.tm≤y.tm:=by
          rcases List.mem_cons.1 hy with rfl | hy'
          · exact Int.le_refl _
          · have:=dLe_iff.1 (h1 y hy'); omega
        simp; omega
      rw [e,e2]; rfl
theorem two_ticks {s:State} {n m:Int} (h0:0≤n) (h1:0≤m) (he:(tkTick s n).2.2=0) (hf:(tkTick (tkTick s n).1 m).2.2=0) :
    (tkTick s (n+m)).2.2=0∧(tkTick s (n+m)).1=(tkTick (tkTick s n).1 m).1∧(tkTick s (n+m)).2.1=(tkTick s n).2.1 ++ (tkTick (tkTick s n).1 m).2.1:=by
  obtain ⟨a1,_,a3,a4⟩:=tick_right he
  obtain ⟨b1,_,b3,b4⟩:=tick_right hf
  have hF:=fab_iff.1 a1
  have en:(tkTick s n).1.now=s.now+n:=by rw [a4]; exact fold_now _ _
  have e:tkTick s (n+m)=(tkFold (tkAt s (s.now+(n+m))) (tkIds s (n+m)),tkIds s (n+m),0):=by
    unfold tkTick
    rw [if_neg (by rw [a1]; decide),if_neg (by omega)]
  have ed:=dues_rest hF h0 a3
  have ei:tkIds s (n+m)=tkIds s n ++ tkIds (tkTick s n).1 m:=by
    rw [ids_eq,ids_eq,ids_eq,en,a4]
    simp only
    rw [ed]
    unfold lateIds
    have:=cut_two (a:=s.now+n) (b:=s.now+(n+m)) (by omega) (dues_pw s)
    rw [← this,List.map_append,Int.add_assoc]
  refine ⟨by rw [e],?_,?_⟩
  · rw [e,b4]
    show tkFold (tkAt s (s.now+(n+m))) (tkIds s (n+m))=tkFold (tkAt (tkTick s n).1 ((tkTick s n).1.now+m)) (tkIds (tkTick s n).1 m)
    rw [ei,en]
    generalize tkIds (tkTick s n).1 m=l
    rw [a4,fold_two s (s.now+n),Int.add_assoc]
  · have q1:(tkTick s n).2.1=tkIds s n:=by rw [a4]
    have q2:(tkTick (tkTick s n).1 m).2.1=tkIds (tkTick s n).1 m:=by rw [b4]
    rw [q1,q2,e]
    exact ei
theorem two_err {s:State} {n m:Int} (h0:0≤n) (h1:0≤m) (h:¬ (tkTick s n).2.2=0∨¬ (tkTick (tkTick s n).1 m).2.2=0):¬ (tkTick s (n+m)).2.2=0:=by
  intro hg
  obtain ⟨c1,c2,c3,c4⟩:=tick_right hg
  have e:tkTick s n=(tkFold (tkAt s (s.now+n)) (tkIds s n),tkIds s n,0):=by
    unfold tkTick
    rw [if_neg (by rw [c1]; decide),if_neg (by omega)]
  have ef:=fab_iff.2 (tick_fab (fab_iff.1 c1) h0 (show n≤1099511627776 - s.now by omega))
  have en:(tkFold (tkAt s (s.now+n)) (tkIds s n)).now=s.now+n:=fold_now _ _
  rcases h with h | h
  · exact h (by rw [e])
  · refine h ?_
    rw [e]
    unfold tkTick
    simp only
    rw [if_neg (by rw [ef]; decide),if_neg (by rw [en]; omega)]
end Go.Sak
namespace Go.Sak
open Go Go.RowKit Go.Proofs
set_option linter.unusedVariables false
set_option linter.unusedSimpArgs false
set_option maxRecDepth 10000
set_option maxHeartbeats 8000000
def F5:AFn:=⟨79,(.seq (.reg [o1 3 (.box 33 0),o1 6 (.mv (.const (.bool false)))]) (.seq (.reg [o1 17 (.call 14 []),o1 7 (.mv 17)]) (.seq (.seq (.reg [o1 18 (.ld 20 true 3),o1 19 (.call 15 [18]),o1 20 (.not 19)]) (.cond 20 (.seq (.reg [o1 21 (.mv 7),o1 6 (.mv 21)]) .ret) .skip)) (.seq (.reg [o1 23 (.ld 20 true 3),o1 24 (.mv 1),o1 25 (.conv .i64 24),o1 26 (.call 16 [23,25]),o1 22 (.mv 26),o1 27 (.ext 22 0),o1 28 (.ext 22 1),o1 29 (.ext 22 2),o1 8 (.alloc 33 [(.int .i64 0),(.int .i64 0),(.int .i64 0),(.int .i64 0),(.int .i64 0),(.int .i64 0),(.bool false),(.int .i64 0),(.int .i64 0),(.int .i64 0),.slnil,.slnil,.slnil,(.int .i64 0),.slnil,(.int .i64 0),.slnil,(.int .i64 0),.slnil,.slnil]),o2 (.st 20 8 27),o1 9 (.mv 28),o1 10 (.mv 29)]) (.seq (.reg [o1 31 (.ld 20 true 8),o1 32 (.mv 2),o1 33 (.conv .i64 32),o1 34 (.call 16 [31,33]),o1 30 (.mv 34),o1 35 (.ext 30 0),o1 36 (.ext 30 1),o1 37 (.ext 30 2),o1 11 (.alloc 33 [(.int .i64 0),(.int .i64 0),(.int .i64 0),(.int .i64 0),(.int .i64 0),(.int .i64 0),(.bool false),(.int .i64 0),(.int .i64 0),(.int .i64 0),.slnil,.slnil,.slnil,(.int .i64 0),.slnil,(.int .i64 0),.slnil,(.int .i64 0),.slnil,.slnil]),o2 (.st 20 11 35),o1 12 (.mv 36),o1 13 (.mv 37)]) (.seq (.reg [o1 39 (.ld 20 true 3),o1 40 (.mv 1),o1 41 (.conv .i64 40),o1 42 (.mv 2),o1 43 (.conv .i64 42),o1 44 (.bin .add 41 43),o1 45 (.call 16 [39,44]),o1 38 (.mv 45),o1 46 (.ext 38 0),o1 47 (.ext 38 1),o1 48 (.ext 38 2),o1 14 (.alloc 33 [(.int .i64 0),(.int .i64 0),(.int .i64 0),(.int .i64 0),(.int .i64 0),(.int .i64 0),(.bool false),(.int .i64 0),(.int .i64 0),(.int .i64 0),.slnil,.slnil,.slnil,(.int .i64 0),.slnil,(.int .i64 0),.slnil,(.int .i64 0),.slnil,.slnil]),o2 (.st 20 14 46),o1 15 (.mv 47),o1 16 (.mv 48)]) (.seq (.seq (.reg [o1 49 (.mv 10),o1 50 (.bin .neq 49 (ci 0)),o1 51 (.mv 50),o4 52 (.mv 13) 51,o4 53 (.bin .neq 52 (ci 0)) 51,o1 54 (.pick 51 (.const (.bool true)) 53)]) (.cond 54 (.seq (.reg [o1 55 (.mv 7),o1 56 (.mv 55),o3 57 (.mv 16) 56,o3 58 (.bin .neq 57 (ci 0)) 56,o1 59 (.pick 56 58 (.const (.bool false))),o1 6 (.mv 59)]) .ret) .skip)) (.seq (.reg [o1 60 (.mv 7),o1 61 (.mv 60),o3 62 (.mv 16) 61,o3 63 (.bin .eql 62 (ci 0)) 61,o1 64 (.pick 61 63 (.const (.bool false))),o1 65 (.mv 64),o3 66 (.ld 20 true 11) 65,o3 67 (.ld 20 true 14) 65,o3 68 (.call 17 [66,67]) 65,o1 69 (.pick 65 68 (.const (.bool false))),o1 70 (.mv 69),o3 71 (.bslice 3 1 0 []) 70,o3 72 (.mv 9) 70,o3 73 (.app 3 1 8 71 72) 70,o3 74 (.mv 12) 70,o3 75 (.app 3 1 8 73 74) 70,o3 76 (.mv 15) 70,o3 77 (.call 19 [75,76]) 70,o1 78 (.pick 70 77 (.const (.bool false))),o1 6 (.mv 78)]) .ret)))))))),[(6,none)]⟩
theorem x5:xf Tryz.prog 5=some F5:=by kernel_rfl
theorem take_two {k l:List Int}:List.take (k.length+l.length) (List.map encI (k ++ l))=List.map encI (k ++ l):=List.take_of_length_le (by simp)
theorem tick_bdp {s:State} {n:Int} {k:Nat} (h:Bd s k):Bd (tkTick s n).1 k:=by
  unfold tkTick
  split
  · exact h
  · split
    · exact h
    · exact fold_bd _ (show Bd (tkAt s (s.now+n)) k from h)
theorem con5 {s:State} {n m:Int} (h0:0≤n∧n≤4294967295) (h1:0≤m∧m≤4294967295):Con Tryz.prog 5 [.agg (encZ s),.int .u32 n,.int .u32 m] (.bool true,[],[]):=by
  have hcn:IntKind.wrap .i64 n=n:=wrap64 (by omega) (by omega)
  have hcm:IntKind.wrap .i64 m=m:=wrap64 (by omega) (by omega)
  have hcs:IntKind.wrap .i64 (n+m)=n+m:=wrap64 (by omega) (by omega)
  cases hf:few s with
  | false =>
    refine mcb_of_vc mix x5 (by simp [F5]) fun hw _=>?_
    clear hw
    repeat' with_reducible first|refine gTn_of (fun h=>?_) (fun h=>?_)|refine gT_of (fun h=>?_) (fun h=>?_)|refine caseTn_of (fun h=>?_) (fun h=>?_)|refine caseT_of (fun h=>?_) (fun h=>?_)|refine FN ?_ ?_ ?_ ?_ rfl ?_|refine kv_ifn ?_ ?_|refine kv_if ?_ ?_|refine k_if ?_ ?_|refine IA ?_ ?_ ?_|refine L1 ?_ ?_|refine L2 ?_ ?_|refine L3 ?_ ?_ ?_ ?_|refine L4 ?_ ?_|refine L5 ?_ ?_ ?_ ?_ ?_|refine L6 ?_ ?_ ?_ ?_ ?_|refine AC.p0 con14 ?_ (by simp -implicitDefEqProofs only [qU,pure_encZ]; done) ?_ ?_|refine AC.p0 (con15s ) ?_ (by simp -implicitDefEqProofs only [qU,pure_encZ]; done) ?_ ?_|refine AC.p0 (con16s ?_) ?_ (by simp -implicitDefEqProofs only [qU,pure_encZ]; done) ?_ ?_|refine AC.p0 (con17s ?_) ?_ (by simp -implicitDefEqProofs only [qU,pure_encZ]; done) ?_ ?_|refine ap_of (rw_slv _ _ _) (by simp -implicitDefEqProofs only [m_get,Nat.reduceEqDiff,reduceIte,if_true,if_false]; first|done|exact rfl) ?_ ?_ ?_ ?_|refine ACV.of (con19 ?_) ?_ ?_ ?_|refine AC.p0 (con19 ?_) ?_ (by simp -implicitDefEqProofs only [qU,pure_encZ]; done) ?_ ?_|refine AC.view (f:=19) [1073] ?_ ?_ ?_|simp -implicitDefEqProofs only [F5,qA,ld_0,ld_pv,st_0,doEqs,qU,List.reduceReplicate,Nat.reduceAdd,Nat.reduceSub,Nat.reduceLeDiff,Nat.reduceEqDiff,Nat.reduceMul,reduceIte,reduceCtorEq,qI,Nat.reduceLT,Nat.reduceBEq,up_s,Int.toNat_natCast,encT,qZ,splice_c,sp_allZ,pt_now,pt_thr,encI,Int.natCast_zero,Int.reduceEq,Int.reduceNe,doConv,doBslice,trss_append,← List.map_append,take_two, *]
    all_goals first
      | exact puress_map pure_encI _
      | exact Wk.refl _
      | omega
      | (simp only [List.length_map,List.length_nil,List.length_append]; omega)
      | (refine Wk.of_eq ?_; simp [*]; done)
      | (simp [*]; done)
      | trace_state
  | true =>
  have hb8:=few_k (k:=100000000) hf (by omega)
  have hb5:=few_k (k:=100000) hf (by omega)
  have hba:Bd (tkTick s n).1 100000:=tick_bdp hb5
  have hba8:Bd (tkTick (tkTick s n).1 m).1 100000000:=tick_bdp (tick_bdp hb8)
  have hbc8:Bd (tkTick s (n+m)).1 100000000:=tick_bdp hb8
  by_cases he:(tkTick s n).2.2=0
  · by_cases hf':(tkTick (tkTick s n).1 m).2.2=0
    · obtain ⟨g1,g2,g3⟩:=two_ticks h0.1 h1.1 he hf'
      have i1:(tkTick s n).2.1.length≤16:=by rw [(tick_right he).2.2.2]; exact ids_len _ _
      have i2:(tkTick (tkTick s n).1 m).2.1.length≤16:=by rw [(tick_right hf').2.2.2]; exact ids_len _ _
      have hil:((tkTick s n).2.1 ++ (tkTick (tkTick s n).1 m).2.1).length≤100000000:=by rw [List.length_append]; omega
      clear h0 h1
      refine mcb_of_vc mix x5 (by simp [F5]) fun hw _=>?_
      clear hw
      repeat' with_reducible first|refine gTn_of (fun h=>?_) (fun h=>?_)|refine gT_of (fun h=>?_) (fun h=>?_)|refine caseTn_of (fun h=>?_) (fun h=>?_)|refine caseT_of (fun h=>?_) (fun h=>?_)|refine FN ?_ ?_ ?_ ?_ rfl ?_|refine kv_ifn ?_ ?_|refine kv_if ?_ ?_|refine k_if ?_ ?_|refine IA ?_ ?_ ?_|refine L1 ?_ ?_|refine L2 ?_ ?_|refine L3 ?_ ?_ ?_ ?_|refine L4 ?_ ?_|refine L5 ?_ ?_ ?_ ?_ ?_|refine L6 ?_ ?_ ?_ ?_ ?_|refine AC.p0 con14 ?_ (by simp -implicitDefEqProofs only [qU,pure_encZ]; done) ?_ ?_|refine AC.p0 (con15s ) ?_ (by simp -implicitDefEqProofs only [qU,pure_encZ]; done) ?_ ?_|refine AC.p0 (con16s ?_) ?_ (by simp -implicitDefEqProofs only [qU,pure_encZ]; done) ?_ ?_|refine AC.p0 (con17s ?_) ?_ (by simp -implicitDefEqProofs only [qU,pure_encZ]; done) ?_ ?_|refine ap_of (rw_slv _ _ _) (by simp -implicitDefEqProofs only [m_get,Nat.reduceEqDiff,reduceIte,if_true,if_false]; first|done|exact rfl) ?_ ?_ ?_ ?_|refine ACV.of (con19 ?_) ?_ ?_ ?_|refine AC.p0 (con19 ?_) ?_ (by simp -implicitDefEqProofs only [qU,pure_encZ]; done) ?_ ?_|refine AC.view (f:=19) [1073] ?_ ?_ ?_|simp -implicitDefEqProofs only [F5,qA,ld_0,ld_pv,st_0,doEqs,qU,List.reduceReplicate,Nat.reduceAdd,Nat.reduceSub,Nat.reduceLeDiff,Nat.reduceEqDiff,Nat.reduceMul,reduceIte,reduceCtorEq,qI,Nat.reduceLT,Nat.reduceBEq,up_s,Int.toNat_natCast,encT,qZ,splice_c,sp_allZ,pt_now,pt_thr,encI,Int.natCast_zero,Int.reduceEq,Int.reduceNe,doConv,doBslice,trss_append,← List.map_append,take_two, *]
      all_goals first
        | exact hb5
        | exact hba
        | exact hb8
        | exact hba8
        | exact hbc8
        | exact puress_map pure_encI _
        | exact Wk.refl _
        | omega
        | exact hil
        | (simp only [List.length_map,List.length_nil,List.length_append]; omega)
        | (refine Wk.of_eq ?_; simp [*]; done)
        | (simp [*]; done)
        | trace_state
    · have hg:=two_err h0.1 h1.1 (.inr hf')
      clear h0 h1
      refine mcb_of_vc mix x5 (by simp [F5]) fun hw _=>?_
      clear hw
      repeat' with_reducible first|refine gTn_of (fun h=>?_) (fun h=>?_)|refine gT_of (fun h=>?_) (fun h=>?_)|refine caseTn_of (fun h=>?_) (fun h=>?_)|refine caseT_of (fun h=>?_) (fun h=>?_)|refine FN ?_ ?_ ?_ ?_ rfl ?_|refine kv_ifn ?_ ?_|refine kv_if ?_ ?_|refine k_if ?_ ?_|refine IA ?_ ?_ ?_|refine L1 ?_ ?_|refine L2 ?_ ?_|refine L3 ?_ ?_ ?_ ?_|refine L4 ?_ ?_|refine L5 ?_ ?_ ?_ ?_ ?_|refine L6 ?_ ?_ ?_ ?_ ?_|refine AC.p0 con14 ?_ (by simp -implicitDefEqProofs only [qU,pure_encZ]; done) ?_ ?_|refine AC.p0 (con15s ) ?_ (by simp -implicitDefEqProofs only [qU,pure_encZ]; done) ?_ ?_|refine AC.p0 (con16s ?_) ?_ (by simp -implicitDefEqProofs only [qU,pure_encZ]; done) ?_ ?_|refine AC.p0 (con17s ?_) ?_ (by simp -implicitDefEqProofs only [qU,pure_encZ]; done) ?_ ?_|refine ap_of (rw_slv _ _ _) (by simp -implicitDefEqProofs only [m_get,Nat.reduceEqDiff,reduceIte,if_true,if_false]; first|done|exact rfl) ?_ ?_ ?_ ?_|refine ACV.of (con19 ?_) ?_ ?_ ?_|refine AC.p0 (con19 ?_) ?_ (by simp -implicitDefEqProofs only [qU,pure_encZ]; done) ?_ ?_|refine AC.view (f:=19) [1073] ?_ ?_ ?_|simp -implicitDefEqProofs only [F5,qA,ld_0,ld_pv,st_0,doEqs,qU,List.reduceReplicate,Nat.reduceAdd,Nat.reduceSub,Nat.reduceLeDiff,Nat.reduceEqDiff,Nat.reduceMul,reduceIte,reduceCtorEq,qI,Nat.reduceLT,Nat.reduceBEq,up_s,Int.toNat_natCast,encT,qZ,splice_c,sp_allZ,pt_now,pt_thr,encI,Int.natCast_zero,Int.reduceEq,Int.reduceNe,doConv,doBslice,trss_append,← List.map_append,take_two, *]
      all_goals first
        | exact hb5
        | exact hba
        | exact hb8
        | exact hba8
        | exact hbc8
        | exact puress_map pure_encI _
        | exact Wk.refl _
        | omega
        | (simp only [List.length_map,List.length_nil,List.length_append]; omega)
        | (refine Wk.of_eq ?_; simp [*]; done)
        | (simp [*]; done)
        | trace_state
  · have hg:=two_err h0.1 h1.1 (.inl he)
    clear h0 h1
    refine mcb_of_vc mix x5 (by simp [F5]) fun hw _=>?_
    clear hw
    repeat' with_reducible first|refine gTn_of (fun h=>?_) (fun h=>?_)|refine gT_of (fun h=>?_) (fun h=>?_)|refine caseTn_of (fun h=>?_) (fun h=>?_)|refine caseT_of (fun h=>?_) (fun h=>?_)|refine FN ?_ ?_ ?_ ?_ rfl ?_|refine kv_ifn ?_ ?_|refine kv_if ?_ ?_|refine k_if ?_ ?_|refine IA ?_ ?_ ?_|refine L1 ?_ ?_|refine L2 ?_ ?_|refine L3 ?_ ?_ ?_ ?_|refine L4 ?_ ?_|refine L5 ?_ ?_ ?_ ?_ ?_|refine L6 ?_ ?_ ?_ ?_ ?_|refine AC.p0 con14 ?_ (by simp -implicitDefEqProofs only [qU,pure_encZ]; done) ?_ ?_|refine AC.p0 (con15s ) ?_ (by simp -implicitDefEqProofs only [qU,pure_encZ]; done) ?_ ?_|refine AC.p0 (con16s ?_) ?_ (by simp -implicitDefEqProofs only [qU,pure_encZ]; done) ?_ ?_|refine AC.p0 (con17s ?_) ?_ (by simp -implicitDefEqProofs only [qU,pure_encZ]; done) ?_ ?_|refine ap_of (rw_slv _ _ _) (by simp -implicitDefEqProofs only [m_get,Nat.reduceEqDiff,reduceIte,if_true,if_false]; first|done|exact rfl) ?_ ?_ ?_ ?_|refine ACV.of (con19 ?_) ?_ ?_ ?_|refine AC.p0 (con19 ?_) ?_ (by simp -implicitDefEqProofs only [qU,pure_encZ]; done) ?_ ?_|refine AC.view (f:=19) [1073] ?_ ?_ ?_|simp -implicitDefEqProofs only [F5,qA,ld_0,ld_pv,st_0,doEqs,qU,List.reduceReplicate,Nat.reduceAdd,Nat.reduceSub,Nat.reduceLeDiff,Nat.reduceEqDiff,Nat.reduceMul,reduceIte,reduceCtorEq,qI,Nat.reduceLT,Nat.reduceBEq,up_s,Int.toNat_natCast,encT,qZ,splice_c,sp_allZ,pt_now,pt_thr,encI,Int.natCast_zero,Int.reduceEq,Int.reduceNe,doConv,doBslice,trss_append,← List.map_append,take_two, *]
    all_goals first
      | exact hb5
      | exact hba
      | exact hb8
      | exact hba8
      | exact hbc8
      | exact puress_map pure_encI _
      | exact Wk.refl _
      | omega
      | (simp only [List.length_map,List.length_nil,List.length_append]; omega)
      | (refine Wk.of_eq ?_; simp [*]; done)
      | (simp [*]; done)
      | trace_state

end Go.Sak
