/- Part S35 of the proofs about the program: K36. Conditions: none. -/
import Derived.Test.YtccdhjhffebpoaaGreatS22
import Derived.Test.YtccdhjhffebpoaaGreatS04
import Derived.Test.YtccdhjhffebpoaaGreatProg
import Derived.KernelRfl
namespace Go.Sak
open Go Go.RowKit Go.Proofs
set_option linter.unusedVariables false
set_option linter.unusedSimpArgs false
set_option maxRecDepth 10000
set_option maxHeartbeats 8000000
def F49:AFn:=⟨46,(.seq (.reg [o1 1 (.box 33 0),o1 2 (.alloc 76 [.slnil,(.int .i64 0),(.int .i64 0),(.int .i64 0)])]) (.seq (.seq (.reg [o1 5 (.ld 20 true 1),o1 6 (.call 33 [5]),o1 7 (.not 6)]) (.cond 7 (.seq (.reg [o1 8 (.build [.slnil,(.int .i64 0),(.int .i64 0),(.int .i64 0)] []),o2 (.st 4 2 8)]) .ret) .skip)) (.seq (.reg [o1 9 (.faddr 10 1),o1 10 (.ld 1 false 9),o1 11 (.len 10),o1 12 (.faddr 0 1),o1 13 (.faddr 2 12),o1 14 (.ld 1 false 13),o1 15 (.faddr 7 1),o1 16 (.faddr 2 15),o1 17 (.ld 1 false 16),o1 18 (.build [.slnil,(.int .i64 0),(.int .i64 0),(.int .i64 0)] [(1,1,11),(2,1,14),(3,1,17)]),o1 3 (.alloc 76 [.slnil,(.int .i64 0),(.int .i64 0),(.int .i64 0)]),o2 (.st 4 3 18)]) (.seq (.seq (.reg [o1 19 (.faddr 7 1),o1 20 (.ld 3 true 19),o1 21 (.call 130 [20]),o1 22 (.mv (ci 0))]) (.block 0 (.loop (.seq (.reg [o1 23 (.bin .lss 22 21)]) (.seq (.cond 23 .skip (.exit 0)) (.seq (.block 1 (.seq (.reg [o1 24 (.mv 22),o1 4 (.mv 24)]) (.regT [o1 25 (.faddr 0 3),o1 26 (.ld 1 false 25),o1 27 (.faddr 10 1),o1 28 (.ld 1 false 27),o1 29 (.faddr 7 1),o1 30 (.faddr 0 29),o1 31 (.ld 1 false 30),o1 32 (.mv 4),o1 33 (.bin .add 31 32),o1 34 (.faddr 10 1),o1 35 (.ld 1 false 34),o1 36 (.len 35),o1 37 (.call 131 [33,36]),o1 38 (.iaddr 2 28 37),o1 39 (.faddr 1 38),o1 40 (.ld 1 false 39),o1 41 (.bslice 3 1 1 [40]),o1 42 (.app 3 1 8 26 41),o1 43 (.faddr 0 3),o2 (.st 1 43 42)] [(0,2),(1,2),(0,3),(1,3),(0,4),(1,4),(2,4),(3,4),(0,5),(1,5),(2,5),(3,5),(0,6),(1,6),(2,6),(3,6),(0,9),(1,9),(2,9),(3,9),(4,9),(5,9),(6,9),(0,10),(1,10),(2,10),(3,10),(4,10),(5,10),(6,10),(0,11),(1,11),(2,11),(3,11),(4,11),(5,11),(6,11),(0,12),(1,12),(2,12),(3,12),(0,13),(1,13),(0,14),(1,14),(0,15),(1,15),(0,16),(1,16)]))) (.reg [o1 44 (.bin .add 22 (ci 1)),o1 22 (.mv 44)]))))))) (.seq (.reg [o1 45 (.ld 4 true 3),o2 (.st 4 2 45)]) .ret))))),[(2,some (4,true))]⟩
theorem x49:xf Tryz.prog 49=some F49:=by kernel_rfl
theorem wk_q {vs:List Int} {c p m:Int} {x:AV} (h:Wk x (.slv 1 (vs.map encI))):Wk (.agg [x,.int .i64 c,.int .i64 p,.int .i64 m]) (.agg (encQ ⟨vs,c,p,m⟩)):=by
  refine Wk.agg ?_
  simp only [encQ,wks_cons,wks_nil]
  exact ⟨h,fun _=>rfl,Wk.refl _,fun h=>h,Wk.refl _,fun h=>h,Wk.refl _,fun h=>h,trivial⟩
def qAt (s:State) (i:Nat):Int:=(s.slots.getD (slotAt s.slots (s.word.h+(i:Int))) default).val
def qVals (s:State) (n:Nat):List Int:=(List.range n).map (qAt s)
theorem qVals_len {s:State} {n:Nat}:(qVals s n).length=n:=by simp [qVals]
theorem qVals_s {s:State} {n:Nat}:qVals s n ++ [qAt s n]=qVals s (n+1):=by simp [qVals,List.range_succ]
theorem fabQueue_t {s:State} (h:fabCheck s=true):fabQueue s=⟨qVals s (posLen s.word).toNat,s.slots.length,s.cfg.pol,s.word.m⟩:=by
  unfold fabQueue; rw [if_neg (by simp [h])]; rfl
theorem fab_word {s:State} (h:fabCheck s=true):1≤s.slots.length∧s.word.h≥0∧s.word.t≤1099511627776∧posLen s.word≤64∧0≤posLen s.word∧s.word.h+posLen s.word≤1099511627776:=by
  have h1:=slotCheck_room h
  simp only [fabCheck,posCheck,within,slotCheck,Bool.and_eq_true,decide_eq_true_eq] at h
  obtain ⟨⟨⟨⟨⟨⟨⟨⟨⟨⟨⟨⟨⟨_,p⟩,l⟩,⟨⟨r,_⟩,_⟩⟩,_⟩,_⟩,_⟩,_⟩,_⟩,_⟩,_⟩,_⟩,_⟩,_⟩:=h
  have:posLen s.word≥0∧s.word.h+posLen s.word≤1099511627776:=by
    unfold posLen; split
    · omega
    · split <;> omega
  omega
theorem con49 {s_lg s_th:Int} {s_pol s_wt:Int} {s_spin s_yld:Int} {s_single:Bool} {s_h s_t s_m:Int} {s_slots:List Slot} {s_sends s_recvs:List Int} {s_fe:Int} {s_fl:List Int} {s_ee:Int} {s_el:List Int} {s_now:Int} {s_thr:List Thread} {s_log:List Entry} (h1:s_slots.length≤100000000) (h2:s_sends.length≤100000000) (h3:s_recvs.length≤100000000) (h4:s_fl.length≤100000000) (h5:s_el.length≤100000000) (h6:s_thr.length≤100000000) (h7:s_log.length≤100000000):Con Tryz.prog 49 [.agg [.int .i64 s_lg,.int .i64 s_th,.int .i64 s_pol,.int .i64 s_wt,.int .i64 s_spin,.int .i64 s_yld,.bool s_single,.int .i64 s_h,.int .i64 s_t,.int .i64 s_m,.slv 2 (s_slots.map encS),.slv 1 (s_sends.map encI),.slv 1 (s_recvs.map encI),.int .i64 s_fe,.slv 1 (s_fl.map encI),.int .i64 s_ee,.slv 1 (s_el.map encI),.int .i64 s_now,.slv 11 (s_thr.map encT),.slv 5 (s_log.map encE)]] (.agg (encQ (fabQueue (State.mk (Config.mk s_lg s_th s_pol s_wt s_spin s_yld s_single) (Word.mk s_h s_t s_m) s_slots s_sends s_recvs (Event.mk s_fe s_fl) (Event.mk s_ee s_el) s_now s_thr s_log))),[],[]):=by
  by_cases hchk:fabCheck (State.mk (Config.mk s_lg s_th s_pol s_wt s_spin s_yld s_single) (Word.mk s_h s_t s_m) s_slots s_sends s_recvs (Event.mk s_fe s_fl) (Event.mk s_ee s_el) s_now s_thr s_log)=true
  · rw [fabQueue_t hchk]
    have hfw:=fab_word hchk
    simp only [] at hfw
    refine mcb_of_vc mix x49 (by simp [F49]) fun hw _=>?_
    clear hw
    repeat' with_reducible first|refine gTn_of (fun h=>?_) (fun h=>?_)|refine gT_of (fun h=>?_) (fun h=>?_)|refine caseTn_of (fun h=>?_) (fun h=>?_)|refine caseT_of (fun h=>?_) (fun h=>?_)|refine FN ?_ ?_ ?_ ?_ rfl ?_|refine kv_ifn ?_ ?_|refine kv_if ?_ ?_|refine k_if ?_ ?_|refine IA ?_ ?_ ?_|refine L1 ?_ ?_|refine L2 ?_ ?_|refine L3 ?_ ?_ ?_ ?_|refine L4 ?_ ?_|refine L5 ?_ ?_ ?_ ?_ ?_|refine L6 ?_ ?_ ?_ ?_ ?_|refine P0 (con33 ?_ ?_ ?_ ?_ ?_ ?_ ?_) ?_ ?_ ?_|refine P0 (con130) ?_ ?_ ?_|refine ACV.of (con130) ?_ ?_ ?_|refine ACK.of (con130) ?_ ?_|simp -implicitDefEqProofs only [F49,qA,ld_0,ld_pv,st_0,splice,doEqs,qU,List.reduceReplicate,Nat.reduceAdd,Nat.reduceSub,Nat.reduceLeDiff,Nat.reduceEqDiff,Nat.reduceMul,reduceIte,reduceCtorEq,qI,Nat.reduceLT,Nat.reduceBEq,up_s,Int.toNat_natCast,encT,hchk, *]
    all_goals first
      | omega
      | refine lm_of 8 (fun i:Nat=>[none,some (.ptr 2 0 0),some (.ptr 3 0 0),some (.ptr 4 0 0),none,none,none,none,none,none,none,none,none,none,none,none,none,none,none,none,none,some (.int .i64 (posLen ⟨s_h,s_t,s_m⟩)),some (.int .i64 i),none,none,none,none,none,none,none,none,none,none,none,none,none,none,none,none,none,none,none,none,none,none,none]) (fun i=>[(2,.rows 33 20 [[.int .i64 s_lg,.int .i64 s_th,.int .i64 s_pol,.int .i64 s_wt,.int .i64 s_spin,.int .i64 s_yld,.bool s_single,.int .i64 s_h,.int .i64 s_t,.int .i64 s_m,.slv 2 (s_slots.map encS),.slv 1 (s_sends.map encI),.slv 1 (s_recvs.map encI),.int .i64 s_fe,.slv 1 (s_fl.map encI),.int .i64 s_ee,.slv 1 (s_el.map encI),.int .i64 s_now,.slv 11 (s_thr.map encT),.slv 5 (s_log.map encE)]]),(3,.rows 76 4 [[.slnil,.int .i64 0,.int .i64 0,.int .i64 0]]),(4,.rows 76 4 [[if i=0 then .slnil else .slm 5 i,.int .i64 s_slots.length,.int .i64 s_pol,.int .i64 s_m]])] ++ (if i=0 then [] else [(5,.rows 3 1 ((qVals (State.mk (Config.mk s_lg s_th s_pol s_wt s_spin s_yld s_single) (Word.mk s_h s_t s_m) s_slots s_sends s_recvs (Event.mk s_fe s_fl) (Event.mk s_ee s_el) s_now s_thr s_log) i).map encI))])) (fun i=>i≤(posLen ⟨s_h,s_t,s_m⟩).toNat) (fun i=>(posLen ⟨s_h,s_t,s_m⟩).toNat - i) [] [(1,2),(17,3),(241,4)] 0 (by omega) ?_ ?_ ?_ ?_ ?_ ?_
    rotate_right
    · intro i hi
      simp only [all_some,all_none,all_nil]
      intros
      by_cases h0:i=0
      · subst h0
        simp -implicitDefEqProofs only [if_true,List.append_nil]
        repeat' with_reducible first|refine gTn_of (fun h=>?_) (fun h=>?_)|refine gT_of (fun h=>?_) (fun h=>?_)|refine caseTn_of (fun h=>?_) (fun h=>?_)|refine caseT_of (fun h=>?_) (fun h=>?_)|refine FN ?_ ?_ ?_ ?_ rfl ?_|refine kv_ifn ?_ ?_|refine kv_if ?_ ?_|refine k_if ?_ ?_|refine IA ?_ ?_ ?_|refine L1 ?_ ?_|refine L2 ?_ ?_|refine L3 ?_ ?_ ?_ ?_|refine L4 ?_ ?_|refine L5 ?_ ?_ ?_ ?_ ?_|refine L6 ?_ ?_ ?_ ?_ ?_|refine ia_of (d:=default) ?_ ?_|refine ap_nil (rw_slm _ _ _ _ _ _ (by simp -implicitDefEqProofs only [m_get,Nat.reduceEqDiff,reduceIte,if_true,if_false]; first|done|exact rfl) ?_) ?_ ?_ ?_ ?_|refine ap_of (rw_slm _ _ _ _ _ _ (by simp -implicitDefEqProofs only [m_get,Nat.reduceEqDiff,reduceIte,if_true,if_false]; first|done|exact rfl) ?_) (by simp -implicitDefEqProofs only [m_get,Nat.reduceEqDiff,reduceIte,if_true,if_false]; first|done|exact rfl) ?_ ?_ ?_ ?_|refine rm_of [] [(2,2),(3,3),(4,4),(328,5)] 1 ?_ ?_ ?_ ?_ ?_ ?_|refine P0 (con131) ?_ ?_ ?_|refine ACV.of (con131) ?_ ?_ ?_|refine ACK.of (con131) ?_ ?_|simp -implicitDefEqProofs only [F49,qA,ld_0,ld_pv,st_0,splice,doEqs,qU,List.reduceReplicate,Nat.reduceAdd,Nat.reduceSub,Nat.reduceLeDiff,Nat.reduceEqDiff,Nat.reduceMul,reduceIte,reduceCtorEq,qI,Nat.reduceLT,Nat.reduceBEq,up_s,Int.toNat_natCast,encT,hchk,encS,doBslice,trss_append,lm_normal,lm_exit,lm_ret,qVals_len,Int.natCast_zero, *]
        all_goals first
          | (have hk:=of_decide_eq_true h
             have hwr:IntKind.wrap .i64 (s_h+0)=s_h+0:=wrap64 (by omega) (by omega)
             first
             | omega
             | exact ⟨by omega,by omega⟩
             | (rw [hwr]; exact ⟨posPlace_lo _ _ (by omega),posPlace_hi _ _ (by omega)⟩)
             | (rw [hwr]; simp [qVals,qAt,slotAt,encI]; done)
             | (rw [hwr,← qVals_s]; simp [qAt,slotAt,encI]; done)
             | exact wrap64 (by omega) (by omega))
          | (have hk:=of_decide_eq_false h
             refine wk_q ?_
             rw [show (posLen ⟨s_h,s_t,s_m⟩).toNat=0 from by omega]
             first
             | exact Wk.nil _
             | exact Wk.of_eq (by rw [List.take_of_length_le (by simp [qVals])]))
          | trace_state
      · simp -implicitDefEqProofs only [if_neg h0,List.cons_append,List.nil_append]
        repeat' with_reducible first|refine gTn_of (fun h=>?_) (fun h=>?_)|refine gT_of (fun h=>?_) (fun h=>?_)|refine caseTn_of (fun h=>?_) (fun h=>?_)|refine caseT_of (fun h=>?_) (fun h=>?_)|refine FN ?_ ?_ ?_ ?_ rfl ?_|refine kv_ifn ?_ ?_|refine kv_if ?_ ?_|refine k_if ?_ ?_|refine IA ?_ ?_ ?_|refine L1 ?_ ?_|refine L2 ?_ ?_|refine L3 ?_ ?_ ?_ ?_|refine L4 ?_ ?_|refine L5 ?_ ?_ ?_ ?_ ?_|refine L6 ?_ ?_ ?_ ?_ ?_|refine ia_of (d:=default) ?_ ?_|refine ap_nil (rw_slm _ _ _ _ _ _ (by simp -implicitDefEqProofs only [m_get,Nat.reduceEqDiff,reduceIte,if_true,if_false]; first|done|exact rfl) ?_) ?_ ?_ ?_ ?_|refine ap_of (rw_slm _ _ _ _ _ _ (by simp -implicitDefEqProofs only [m_get,Nat.reduceEqDiff,reduceIte,if_true,if_false]; first|done|exact rfl) ?_) (by simp -implicitDefEqProofs only [m_get,Nat.reduceEqDiff,reduceIte,if_true,if_false]; first|done|exact rfl) ?_ ?_ ?_ ?_|refine rm_of [] [(2,2),(3,3),(4,4),(328,5)] (i+1) ?_ ?_ ?_ ?_ ?_ ?_|refine P0 (con131) ?_ ?_ ?_|refine ACV.of (con131) ?_ ?_ ?_|refine ACK.of (con131) ?_ ?_|simp -implicitDefEqProofs only [F49,qA,ld_0,ld_pv,st_0,splice,doEqs,qU,List.reduceReplicate,Nat.reduceAdd,Nat.reduceSub,Nat.reduceLeDiff,Nat.reduceEqDiff,Nat.reduceMul,reduceIte,reduceCtorEq,qI,Nat.reduceLT,Nat.reduceBEq,up_s,Int.toNat_natCast,encT,hchk,encS,doBslice,trss_append,lm_normal,lm_exit,lm_ret,qVals_len,Int.natCast_zero, *]
        all_goals first
          | (have hk:=of_decide_eq_true h
             have hwr:IntKind.wrap .i64 (s_h+(i:Int))=s_h+(i:Int):=wrap64 (by omega) (by omega)
             first
             | omega
             | exact ⟨by omega,by omega⟩
             | (rw [hwr]; exact ⟨posPlace_lo _ _ (by omega),posPlace_hi _ _ (by omega)⟩)
             | (rw [hwr]; simp [qVals,qAt,slotAt,encI]; done)
             | (rw [hwr,← qVals_s]; simp [qAt,slotAt,encI]; done)
             | exact wrap64 (by omega) (by omega))
          | (have hk:=of_decide_eq_false h
             refine wk_q ?_
             rw [show (posLen ⟨s_h,s_t,s_m⟩).toNat=i from by omega]
             first
             | exact Wk.nil _
             | exact Wk.of_eq (by rw [List.take_of_length_le (by simp [qVals])]))
          | trace_state
    all_goals first
      | omega
      | (simp -implicitDefEqProofs only [qA,ld_0,ld_pv,st_0,splice,doEqs,qU,List.reduceReplicate,Nat.reduceAdd,Nat.reduceSub,Nat.reduceLeDiff,Nat.reduceEqDiff,Nat.reduceMul,reduceIte,reduceCtorEq,qI,Nat.reduceLT,Nat.reduceBEq]; done)
      | (simp -implicitDefEqProofs only [qA,ld_0,ld_pv,st_0,splice,doEqs,qU,List.reduceReplicate,Nat.reduceAdd,Nat.reduceSub,Nat.reduceLeDiff,Nat.reduceEqDiff,Nat.reduceMul,reduceIte,reduceCtorEq,qI,Nat.reduceLT,Nat.reduceBEq]; simp; done)
      | trace_state
  · rw [show fabQueue (State.mk (Config.mk s_lg s_th s_pol s_wt s_spin s_yld s_single) (Word.mk s_h s_t s_m) s_slots s_sends s_recvs (Event.mk s_fe s_fl) (Event.mk s_ee s_el) s_now s_thr s_log)=⟨[],0,0,0⟩ from by unfold fabQueue; rw [if_pos hchk]]
    refine mcb_of_vc mix x49 (by simp [F49]) fun hw _=>?_
    clear hw
    repeat' with_reducible first|refine gTn_of (fun h=>?_) (fun h=>?_)|refine gT_of (fun h=>?_) (fun h=>?_)|refine caseTn_of (fun h=>?_) (fun h=>?_)|refine caseT_of (fun h=>?_) (fun h=>?_)|refine FN ?_ ?_ ?_ ?_ rfl ?_|refine kv_ifn ?_ ?_|refine kv_if ?_ ?_|refine k_if ?_ ?_|refine IA ?_ ?_ ?_|refine L1 ?_ ?_|refine L2 ?_ ?_|refine L3 ?_ ?_ ?_ ?_|refine L4 ?_ ?_|refine L5 ?_ ?_ ?_ ?_ ?_|refine L6 ?_ ?_ ?_ ?_ ?_|refine P0 (con33 ?_ ?_ ?_ ?_ ?_ ?_ ?_) ?_ ?_ ?_|refine P0 (con130) ?_ ?_ ?_|refine ACV.of (con130) ?_ ?_ ?_|refine ACK.of (con130) ?_ ?_|simp -implicitDefEqProofs only [F49,qA,ld_0,ld_pv,st_0,splice,doEqs,qU,List.reduceReplicate,Nat.reduceAdd,Nat.reduceSub,Nat.reduceLeDiff,Nat.reduceEqDiff,Nat.reduceMul,reduceIte,reduceCtorEq,qI,Nat.reduceLT,Nat.reduceBEq,up_s,Int.toNat_natCast,encT,hchk, *]
    all_goals first
      | omega
      | exact wk_q (Wk.nil _)
      | trace_state

end Go.Sak
