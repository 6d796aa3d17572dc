/- Part S120 of the proofs about the program: K225. Conditions: none. -/
import Derived.Test.YtahdilehajdhgaaGreatS119
import Derived.Test.YtahdilehajdhgaaGreatS118
import Derived.Test.YtahdilehajdhgaaGreatS111
import Derived.Test.YtahdilehajdhgaaGreatS04
import Derived.Test.YtahdilehajdhgaaGreatProg
import Derived.KernelRfl
namespace Go.Sak
open Go Go.RowKit Go.Proofs
set_option linter.unusedVariables false
set_option linter.unusedSimpArgs false
set_option maxRecDepth 10000
set_option maxHeartbeats 8000000
theorem con20s {s:State} (hb:Bd s 100000):Con Tryz.prog 20 [.agg (encZ s)] (.tup [.int .i64 (tkNext s).1,.bool (tkNext s).2],[],[]):=by
  have hd:=dues_16 s
  refine mcb_of_vc mix x20 (by simp [F20]) fun hw _=>?_
  clear hw
  repeat' with_reducible first|refine gTn_of (fun h=>?_) (fun h=>?_)|refine gT_of (fun h=>?_) (fun h=>?_)|refine caseTn_of (fun h=>?_) (fun h=>?_)|refine caseT_of (fun h=>?_) (fun h=>?_)|refine FN ?_ ?_ ?_ ?_ rfl ?_|refine kv_ifn ?_ ?_|refine kv_if ?_ ?_|refine k_if ?_ ?_|refine IA ?_ ?_ ?_|refine L1 ?_ ?_|refine L2 ?_ ?_|refine L3 ?_ ?_ ?_ ?_|refine L4 ?_ ?_|refine L5 ?_ ?_ ?_ ?_ ?_|refine L6 ?_ ?_ ?_ ?_ ?_|refine AC.p0 (con21s ?_) ?_ (by simp -implicitDefEqProofs only [qU,pure_encZ]; done) ?_ ?_|refine AC.p0 (con57 ?_) ?_ (by simp -implicitDefEqProofs only [qU,pures,AV.pure,puress_map pure_encD,Bool.and_true]; done) ?_ ?_|simp -implicitDefEqProofs only [F20,qA,ld_0,ld_pv,st_0,splice,doEqs,qU,List.reduceReplicate,Nat.reduceAdd,Nat.reduceSub,Nat.reduceLeDiff,Nat.reduceEqDiff,Nat.reduceMul,reduceIte,reduceCtorEq,qI,Nat.reduceLT,Nat.reduceBEq,up_s,Int.toNat_natCast,encT,qZ,encD, *]
  all_goals first
    | omega
    | exact hb
    | exact puress_map pure_encD _
    | exact Wk.refl _
    | trace_state
theorem con16s {s:State} {n:Int} (hb:Bd s 100000):Con Tryz.prog 16 [.agg (encZ s),.int .i64 n] (.tup [.agg (encZ (tkTick s n).1),.slv 1 ((tkTick s n).2.1.map encI),.int .i64 (tkTick s n).2.2],[],[]):=by
  unfold tkTick
  split
  · rename_i h; exact con16x hb h
  · rename_i h
    have h':fabCheck s=true:=by simpa using h
    split
    · rename_i h2
      by_cases h3:n<0
      · exact con16y hb h' h3
      · exact con16z hb h' h3 (h2.resolve_left h3)
    · rename_i h2
      exact con16k hb h' (fun e=>h2 (.inl e)) (fun e=>h2 (.inr e))
theorem tick_err {s:State} {n:Int} (h:¬ (tkTick s n).2.2=0):(tkTick s n).1=s∧(tkTick s n).2.1=[]∧decide ((tkTick s n).2.2=20)=!fabCheck s:=by
  unfold tkTick at h ⊢
  split
  · rename_i h2; simp [h2]
  · rename_i h2
    have h2':fabCheck s=true:=by simpa using h2
    rw [if_neg h2] at h
    split
    · simp [h2']
    · rename_i h3; rw [if_neg h3] at h; exact absurd rfl h
theorem tick_right {s:State} {n:Int} (h:(tkTick s n).2.2=0):fabCheck s=true∧0≤n∧n≤1099511627776 - s.now∧tkTick s n=(tkFold (tkAt s (s.now+n)) (tkIds s n),tkIds s n,0):=by
  unfold tkTick at h ⊢
  split at h
  · cases h
  · split at h
    · cases h
    · rename_i h1 h2
      rw [if_neg h1,if_neg h2]
      exact ⟨by simpa using h1,by omega,by omega,rfl⟩
theorem few_k {s:State} {k:Nat} (h:few s=true) (hk:200≤k):Bd s k:=(few_bd h).mono hk
theorem splice_c (a:AV) (l:List AV) (o:Nat) (v:List AV):splice (a :: l) o v=(a :: l).take o ++ v ++ (a :: l).drop (o+v.length):=rfl
def withThr (s:State) (l:List Thread):State:=⟨s.cfg,s.word,s.slots,s.sends,s.recvs,s.full,s.empty,s.now,l,s.log⟩
theorem sp_now (s:State) (n:Int):splice (encZ s) 17 [.int .i64 n]=encZ (tkAt s n):=rfl
theorem sp_thr (s:State) (l:List Thread):splice (encZ s) 18 [.slv 11 (l.map encT)]=encZ (withThr s l):=rfl
theorem sp_full (s:State) (n:Int) (l:List Int):splice (encZ s) 13 [.int .i64 n,.slv 1 (l.map encI)]=encZ (withFull s ⟨n,l⟩):=rfl
theorem sp_empty (s:State) (n:Int) (l:List Int):splice (encZ s) 15 [.int .i64 n,.slv 1 (l.map encI)]=encZ (withEmpty s ⟨n,l⟩):=rfl
theorem sp_allZ (s u:State):splice (encZ u) 0 (encZ s)=encZ s:=rfl
theorem pt_thr (s:State):(encZ s)[18]?=some (.slv 11 (s.threads.map encT)):=rfl
theorem pt_full (s:State):((encZ s).drop 13).take 2=[.int .i64 s.full.ep,.slv 1 (s.full.ln.map encI)]:=rfl
theorem pt_empty (s:State):((encZ s).drop 15).take 2=[.int .i64 s.empty.ep,.slv 1 (s.empty.ln.map encI)]:=rfl
def F3:AFn:=⟨84,(.seq (.reg [o1 2 (.box 33 0),o1 4 (.mv (.const (.bool false)))]) (.seq (.reg [o1 10 (.call 14 []),o1 5 (.mv 10)]) (.seq (.seq (.reg [o1 11 (.ld 20 true 2),o1 12 (.call 15 [11]),o1 13 (.not 12)]) (.cond 13 (.seq (.reg [o1 14 (.mv 5),o1 4 (.mv 14)]) .ret) .skip)) (.seq (.reg [o1 16 (.ld 20 true 2),o1 17 (.mv 1),o1 18 (.call 16 [16,17]),o1 15 (.mv 18),o1 19 (.ext 15 0),o1 20 (.ext 15 1),o1 21 (.ext 15 2),o1 6 (.alloc 33 [(.int .i64 0),(.int .i64 0),(.int .i64 0),(.int .i64 0),(.int .i64 0),(.int .i64 0),(.bool false),(.int .i64 0),(.int .i64 0),(.int .i64 0),.slnil,.slnil,.slnil,(.int .i64 0),.slnil,(.int .i64 0),.slnil,(.int .i64 0),.slnil,.slnil]),o2 (.st 20 6 19),o1 7 (.mv 20),o1 8 (.mv 21)]) (.seq (.seq (.reg [o1 22 (.mv 8),o1 23 (.bin .neq 22 (ci 0))]) (.cond 23 (.seq (.reg [o1 24 (.mv 5),o1 25 (.mv 24),o3 26 (.ld 20 true 6) 25,o3 27 (.ld 20 true 2) 25,o3 28 (.call 17 [26,27]) 25,o1 29 (.pick 25 28 (.const (.bool false))),o1 30 (.mv 29),o3 31 (.mv 7) 30,o3 32 (.len 31) 30,o3 33 (.bin .eql 32 (ci 0)) 30,o1 34 (.pick 30 33 (.const (.bool false))),o1 35 (.mv 34),o3 36 (.mv 8) 35,o3 37 (.bin .eql 36 (ci 20)) 35,o3 38 (.ld 20 true 2) 35,o3 39 (.call 18 [38]) 35,o3 40 (.not 39) 35,o3 41 (.eqb false 37 40) 35,o1 42 (.pick 35 41 (.const (.bool false))),o1 4 (.mv 42)]) .ret) .skip)) (.seq (.reg [o1 43 (.ld 20 true 6),o1 9 (.alloc 33 [(.int .i64 0),(.int .i64 0),(.int .i64 0),(.int .i64 0),(.int .i64 0),(.int .i64 0),(.bool false),(.int .i64 0),(.int .i64 0),(.int .i64 0),.slnil,.slnil,.slnil,(.int .i64 0),.slnil,(.int .i64 0),.slnil,(.int .i64 0),.slnil,.slnil]),o2 (.st 20 9 43)]) (.seq (.reg [o1 44 (.faddr 17 2),o1 45 (.ld 1 false 44),o1 46 (.faddr 17 9),o2 (.st 1 46 45)]) (.seq (.reg [o1 47 (.faddr 18 2),o1 48 (.ld 1 false 47),o1 49 (.faddr 18 9),o2 (.st 1 49 48)]) (.seq (.reg [o1 50 (.faddr 13 2),o1 51 (.ld 2 true 50),o1 52 (.faddr 13 9),o2 (.st 2 52 51)]) (.seq (.reg [o1 53 (.faddr 15 2),o1 54 (.ld 2 true 53),o1 55 (.faddr 15 9),o2 (.st 2 55 54)]) (.seq (.reg [o1 56 (.mv 5),o1 57 (.mv 56),o3 58 (.ld 20 true 6) 57,o3 59 (.call 18 [58]) 57,o1 60 (.pick 57 59 (.const (.bool false))),o1 61 (.mv 60),o3 62 (.faddr 17 6) 61,o3 63 (.ld 1 false 62) 61,o3 64 (.faddr 17 2) 61,o3 65 (.ld 1 false 64) 61,o3 66 (.mv 1) 61,o3 67 (.bin .add 65 66) 61,o3 68 (.bin .eql 63 67) 61,o1 69 (.pick 61 68 (.const (.bool false))),o1 70 (.mv 69),o3 71 (.ld 20 true 9) 70,o3 72 (.ld 20 true 2) 70,o3 73 (.call 17 [71,72]) 70,o1 74 (.pick 70 73 (.const (.bool false))),o1 75 (.mv 74),o3 76 (.faddr 18 6) 75,o3 77 (.ld 1 false 76) 75,o3 78 (.len 77) 75,o3 79 (.faddr 18 2) 75,o3 80 (.ld 1 false 79) 75,o3 81 (.len 80) 75,o3 82 (.bin .eql 78 81) 75,o1 83 (.pick 75 82 (.const (.bool false))),o1 4 (.mv 83)]) .ret))))))))))),[(4,none)]⟩
theorem x3:xf Tryz.prog 3=some F3:=by kernel_rfl
theorem con3 {s:State} {n:Int}:Con Tryz.prog 3 [.agg (encZ s),.int .i64 n] (.bool true,[],[]):=by
  cases hf:few s with
  | false =>
    refine mcb_of_vc mix x3 (by simp [F3]) fun hw _=>?_
    clear hw
    repeat' with_reducible first|refine gTn_of (fun h=>?_) (fun h=>?_)|refine gT_of (fun h=>?_) (fun h=>?_)|refine caseTn_of (fun h=>?_) (fun h=>?_)|refine caseT_of (fun h=>?_) (fun h=>?_)|refine FN ?_ ?_ ?_ ?_ rfl ?_|refine kv_ifn ?_ ?_|refine kv_if ?_ ?_|refine k_if ?_ ?_|refine IA ?_ ?_ ?_|refine L1 ?_ ?_|refine L2 ?_ ?_|refine L3 ?_ ?_ ?_ ?_|refine L4 ?_ ?_|refine L5 ?_ ?_ ?_ ?_ ?_|refine L6 ?_ ?_ ?_ ?_ ?_|refine AC.p0 con14 ?_ (by simp -implicitDefEqProofs only [qU,pure_encZ]; done) ?_ ?_|refine AC.p0 (con15s ) ?_ (by simp -implicitDefEqProofs only [qU,pure_encZ]; done) ?_ ?_|refine AC.p0 (con16s ?_) ?_ (by simp -implicitDefEqProofs only [qU,pure_encZ]; done) ?_ ?_|refine AC.p0 (con18s ?_) ?_ (by simp -implicitDefEqProofs only [qU,pure_encZ]; done) ?_ ?_|refine AC.p0 (con17s ?_) ?_ (by simp -implicitDefEqProofs only [qU,pure_encZ]; done) ?_ ?_|simp -implicitDefEqProofs only [F3,qA,ld_0,ld_pv,st_0,doEqs,qU,List.reduceReplicate,Nat.reduceAdd,Nat.reduceSub,Nat.reduceLeDiff,Nat.reduceEqDiff,Nat.reduceMul,reduceIte,reduceCtorEq,qI,Nat.reduceLT,Nat.reduceBEq,up_s,Int.toNat_natCast,encT,qZ,splice_c,sp_now,sp_thr,sp_full,sp_empty,sp_allZ,pt_now,pt_thr,pt_full,pt_empty,encI,Int.natCast_zero,Int.reduceEq,Int.reduceNe, *]
    all_goals first
      | exact Wk.refl _
      | trace_state
  | true =>
  have hb8:=few_k (k:=100000000) hf (by omega)
  have hb5:=few_k (k:=100000) hf (by omega)
  by_cases he:(tkTick s n).2.2=0
  · obtain ⟨k1,k2,k3,k4⟩:=tick_right he
    have hfab:=fab_iff.1 k1
    have hwn:IntKind.wrap .i64 (s.now+n)=s.now+n:=wrap64 (by have:=hfab.now0; omega) (by have:=hfab.now0; omega)
    have hca:=fab_iff.2 (tick_fab hfab k2 k3)
    have hba:Bd (tkFold (tkAt s (s.now+n)) (tkIds s n)) 100000000:=fold_bd _ hb8
    have hnw:(tkFold (tkAt s (s.now+n)) (tkIds s n)).now=s.now+n:=fold_now _ _
    have hln:(tkFold (tkAt s (s.now+n)) (tkIds s n)).threads.length=s.threads.length:=fold_len _ _
    have hbk:withEmpty (withFull (withThr (tkAt (tkFold (tkAt s (s.now+n)) (tkIds s n)) s.now) s.threads) ⟨s.full.ep,s.full.ln⟩) ⟨s.empty.ep,s.empty.ln⟩=s:=@tick_back s n
    clear he hfab k2 k3
    refine mcb_of_vc mix x3 (by simp [F3]) fun hw _=>?_
    clear hw
    repeat' with_reducible first|refine gTn_of (fun h=>?_) (fun h=>?_)|refine gT_of (fun h=>?_) (fun h=>?_)|refine caseTn_of (fun h=>?_) (fun h=>?_)|refine caseT_of (fun h=>?_) (fun h=>?_)|refine FN ?_ ?_ ?_ ?_ rfl ?_|refine kv_ifn ?_ ?_|refine kv_if ?_ ?_|refine k_if ?_ ?_|refine IA ?_ ?_ ?_|refine L1 ?_ ?_|refine L2 ?_ ?_|refine L3 ?_ ?_ ?_ ?_|refine L4 ?_ ?_|refine L5 ?_ ?_ ?_ ?_ ?_|refine L6 ?_ ?_ ?_ ?_ ?_|refine AC.p0 con14 ?_ (by simp -implicitDefEqProofs only [qU,pure_encZ]; done) ?_ ?_|refine AC.p0 (con15s ) ?_ (by simp -implicitDefEqProofs only [qU,pure_encZ]; done) ?_ ?_|refine AC.p0 (con16s ?_) ?_ (by simp -implicitDefEqProofs only [qU,pure_encZ]; done) ?_ ?_|refine AC.p0 (con18s ?_) ?_ (by simp -implicitDefEqProofs only [qU,pure_encZ]; done) ?_ ?_|refine AC.p0 (con17s ?_) ?_ (by simp -implicitDefEqProofs only [qU,pure_encZ]; done) ?_ ?_|simp -implicitDefEqProofs only [F3,qA,ld_0,ld_pv,st_0,doEqs,qU,List.reduceReplicate,Nat.reduceAdd,Nat.reduceSub,Nat.reduceLeDiff,Nat.reduceEqDiff,Nat.reduceMul,reduceIte,reduceCtorEq,qI,Nat.reduceLT,Nat.reduceBEq,up_s,Int.toNat_natCast,encT,qZ,splice_c,sp_now,sp_thr,sp_full,sp_empty,sp_allZ,pt_now,pt_thr,pt_full,pt_empty,encI,Int.natCast_zero,Int.reduceEq,Int.reduceNe, *]
    all_goals first
      | exact hb8
      | exact hb5
      | exact hba
      | exact Wk.refl _
      | (refine Wk.of_eq ?_; simp; done)
      | trace_state
  · obtain ⟨k1,k2,k3⟩:=tick_err he
    refine mcb_of_vc mix x3 (by simp [F3]) fun hw _=>?_
    clear hw
    repeat' with_reducible first|refine gTn_of (fun h=>?_) (fun h=>?_)|refine gT_of (fun h=>?_) (fun h=>?_)|refine caseTn_of (fun h=>?_) (fun h=>?_)|refine caseT_of (fun h=>?_) (fun h=>?_)|refine FN ?_ ?_ ?_ ?_ rfl ?_|refine kv_ifn ?_ ?_|refine kv_if ?_ ?_|refine k_if ?_ ?_|refine IA ?_ ?_ ?_|refine L1 ?_ ?_|refine L2 ?_ ?_|refine L3 ?_ ?_ ?_ ?_|refine L4 ?_ ?_|refine L5 ?_ ?_ ?_ ?_ ?_|refine L6 ?_ ?_ ?_ ?_ ?_|refine AC.p0 con14 ?_ (by simp -implicitDefEqProofs only [qU,pure_encZ]; done) ?_ ?_|refine AC.p0 (con15s ) ?_ (by simp -implicitDefEqProofs only [qU,pure_encZ]; done) ?_ ?_|refine AC.p0 (con16s ?_) ?_ (by simp -implicitDefEqProofs only [qU,pure_encZ]; done) ?_ ?_|refine AC.p0 (con18s ?_) ?_ (by simp -implicitDefEqProofs only [qU,pure_encZ]; done) ?_ ?_|refine AC.p0 (con17s ?_) ?_ (by simp -implicitDefEqProofs only [qU,pure_encZ]; done) ?_ ?_|simp -implicitDefEqProofs only [F3,qA,ld_0,ld_pv,st_0,doEqs,qU,List.reduceReplicate,Nat.reduceAdd,Nat.reduceSub,Nat.reduceLeDiff,Nat.reduceEqDiff,Nat.reduceMul,reduceIte,reduceCtorEq,qI,Nat.reduceLT,Nat.reduceBEq,up_s,Int.toNat_natCast,encT,qZ,splice_c,sp_now,sp_thr,sp_full,sp_empty,sp_allZ,pt_now,pt_thr,pt_full,pt_empty,encI,Int.natCast_zero,Int.reduceEq,Int.reduceNe, *]
    all_goals first
      | exact hb8
      | exact hb5
      | exact Wk.refl _
      | (refine Wk.of_eq ?_; simp; done)
      | trace_state

end Go.Sak
