/- Part S85 of the proofs about the program: K108, K109, K110. Conditions: none. -/
import Derived.Test.YtccdhjhffebpoaaGreatS84
import Derived.Test.YtccdhjhffebpoaaGreatS18
import Derived.Test.YtccdhjhffebpoaaGreatS04
import Derived.Test.YtccdhjhffebpoaaGreatProg
import Derived.KernelRfl
import Derived.Test.YtccdhjhffebpoaaGreatS21
namespace Go.Sak
open Go Go.RowKit Go.Proofs
set_option linter.unusedVariables false
set_option linter.unusedSimpArgs false
set_option maxRecDepth 10000
set_option maxHeartbeats 8000000
def F217:AFn:=⟨105,(.seq (.reg [o1 1 (.box 33 0),o1 2 (.mv (.const (.bool false)))]) (.seq (.reg [o1 9 (.faddr 0 1),o1 10 (.ld 7 true 9),o1 11 (.call 254 [10]),o1 3 (.mv 11)]) (.seq (.seq (.reg [o1 12 (.mv 3),o1 13 (.bin .eql 12 (ci 0)),o1 14 (.mv 13),o4 15 (.faddr 10 1) 14,o4 16 (.ld 1 false 15) 14,o4 17 (.len 16) 14,o4 18 (.mv 3) 14,o4 19 (.bin .neq 17 18) 14,o1 20 (.pick 14 (.const (.bool true)) 19),o1 21 (.mv 20),o4 22 (.faddr 18 1) 21,o4 23 (.ld 1 false 22) 21,o4 24 (.len 23) 21,o4 25 (.faddr 0 1) 21,o4 26 (.faddr 1 25) 21,o4 27 (.ld 1 false 26) 21,o4 28 (.bin .neq 24 27) 21,o1 29 (.pick 21 (.const (.bool true)) 28),o1 30 (.mv 29),o4 31 (.faddr 17 1) 30,o4 32 (.ld 1 false 31) 30,o4 33 (.bin .lss 32 (ci 0)) 30,o1 34 (.pick 30 (.const (.bool true)) 33),o1 35 (.mv 34),o4 36 (.faddr 17 1) 35,o4 37 (.ld 1 false 36) 35,o4 38 (.bin .gtr 37 (ci 1099511627776)) 35,o1 39 (.pick 35 (.const (.bool true)) 38)]) (.cond 39 (.seq (.reg [o1 2 (.mv (.const (.bool false)))]) .ret) .skip)) (.seq (.seq (.reg [o1 4 (.mv (ci 0))]) (.block 0 (.loop (.seq (.seq (.reg [o1 40 (.mv 4),o1 41 (.faddr 18 1),o1 42 (.ld 1 false 41),o1 43 (.len 42),o1 44 (.bin .lss 40 43)]) (.cond 44 .skip (.exit 0))) (.seq (.block 1 (.seq (.reg [o1 47 (.faddr 18 1),o1 48 (.ld 1 false 47),o1 49 (.mv 4),o1 50 (.iaddr 11 48 49),o1 51 (.ld 11 true 50),o1 52 (.call 255 [51]),o1 5 (.mv 52)]) (.seq (.reg [o1 53 (.mv 5),o1 54 (.not 53)]) (.cond 54 (.seq (.reg [o1 2 (.mv (.const (.bool false)))]) .ret) .skip)))) (.reg [o1 45 (.mv 4),o1 46 (.bin .add 45 (ci 1)),o1 4 (.mv 46)])))))) (.seq (.reg [o1 55 (.faddr 7 1),o1 56 (.ld 3 true 55),o1 57 (.mv 3),o1 58 (.call 242 [56,57]),o1 59 (.mv 58),o3 60 (.faddr 10 1) 59,o3 61 (.ld 1 false 60) 59,o3 62 (.call 164 [61]) 59,o1 63 (.pick 59 62 (.const (.bool false))),o1 6 (.mv 63)]) (.seq (.reg [o1 64 (.faddr 13 1),o1 65 (.ld 2 true 64),o1 66 (.call 168 [65]),o1 67 (.mv 66),o3 68 (.faddr 15 1) 67,o3 69 (.ld 2 true 68) 67,o3 70 (.call 168 [69]) 67,o1 71 (.pick 67 70 (.const (.bool false))),o1 7 (.mv 71)]) (.seq (.reg [o1 72 (.faddr 0 1),o1 73 (.faddr 1 72),o1 74 (.ld 1 false 73),o1 8 (.mv 74)]) (.seq (.reg [o1 75 (.mv 6),o1 76 (.mv 75),o3 77 (.mv 7) 76,o1 78 (.pick 76 77 (.const (.bool false))),o1 79 (.mv 78),o3 80 (.faddr 11 1) 79,o3 81 (.ld 1 false 80) 79,o3 82 (.mv 8) 79,o3 83 (.call 256 [81,82]) 79,o1 84 (.pick 79 83 (.const (.bool false))),o1 85 (.mv 84),o3 86 (.faddr 12 1) 85,o3 87 (.ld 1 false 86) 85,o3 88 (.mv 8) 85,o3 89 (.call 256 [87,88]) 85,o1 90 (.pick 85 89 (.const (.bool false))),o1 91 (.mv 90),o3 92 (.faddr 13 1) 91,o3 93 (.faddr 1 92) 91,o3 94 (.ld 1 false 93) 91,o3 95 (.mv 8) 91,o3 96 (.call 256 [94,95]) 91,o1 97 (.pick 91 96 (.const (.bool false))),o1 98 (.mv 97),o3 99 (.faddr 15 1) 98,o3 100 (.faddr 1 99) 98,o3 101 (.ld 1 false 100) 98,o3 102 (.mv 8) 98,o3 103 (.call 256 [101,102]) 98,o1 104 (.pick 98 103 (.const (.bool false))),o1 2 (.mv 104)]) .ret)))))))),[(2,none)]⟩
theorem x217:xf Tryz.prog 217=some F217:=by kernel_rfl
def thr6 (l:List Thread) (i:Nat):Prop:=∀ j,j<i→tCheck (l.getD j default)=true
theorem thr6_s {l:List Thread} {i:Nat} (h:thr6 l i) (h1:tCheck (l.getD i default)=true):thr6 l (i+1):=fun j hj=>by
  rcases Nat.lt_or_eq_of_le (Nat.le_of_lt_succ hj) with h9 | h9
  · exact h j h9
  · subst h9; exact h1
theorem fc_no {s:State} (h:confRoom s.cfg=0∨(s.slots.length:Int)≠confRoom s.cfg∨(s.threads.length:Int)≠s.cfg.th∨s.now<0∨s.now > 1099511627776):fabCheck s=false:=by
  cases hc:fabCheck s with
  | false=>rfl
  | true=>simp only [fabCheck,Bool.and_eq_true,decide_eq_true_eq] at hc; omega
theorem fc_thr {s:State} {i:Nat} (hi:i<s.threads.length) (h:tCheck (s.threads.getD i default)=false):fabCheck s=false:=by
  cases hc:fabCheck s with
  | false=>rfl
  | true =>
    simp only [fabCheck,Bool.and_eq_true,Bool.not_eq_true',List.any_eq_false] at hc
    have:=hc.2 _ (getD_mem (d:=default) hi)
    rw [h] at this; simp at this
theorem fc_all {s:State} (h1:¬ confRoom s.cfg=0) (h2:(s.slots.length:Int)=confRoom s.cfg) (h3:(s.threads.length:Int)=s.cfg.th) (h4:¬ s.now<0) (h5:¬ s.now > 1099511627776) (h6:thr6 s.threads s.threads.length) :
    fabCheck s=(posCheck s.word (confRoom s.cfg) && slotCheck s.slots && (vCheck s.full && vCheck s.empty) && amongOk s.cfg.th s.sends && amongOk s.cfg.th s.recvs && amongOk s.cfg.th s.full.ln && amongOk s.cfg.th s.empty.ln):=by
  have ha:s.threads.any (fun t=>!tCheck t)=false:=by
    rw [List.any_eq_false]
    intro t ht
    obtain ⟨i,hi,rfl⟩:=List.getElem_of_mem ht
    have:=h6 i hi
    simp only [List.getD_eq_getElem?_getD,List.getElem?_eq_getElem hi,Option.getD_some] at this
    rw [this]; simp
  unfold fabCheck
  rw [ha,decide_eq_true h1,decide_eq_true h2,decide_eq_true h3,decide_eq_true (show s.now≥0 by omega),decide_eq_true (show s.now≤1099511627776 by omega)]
  simp only [Bool.true_and,Bool.and_true,Bool.not_false]
  cases posCheck s.word (confRoom s.cfg) <;> cases slotCheck s.slots <;> cases vCheck s.full <;> cases vCheck s.empty <;> cases amongOk s.cfg.th s.sends <;> cases amongOk s.cfg.th s.recvs <;> cases amongOk s.cfg.th s.full.ln <;> cases amongOk s.cfg.th s.empty.ln <;> rfl
theorem con217 {s_lg s_th:Int} {s_pol s_wt:Int} {s_spin s_yld:Int} {s_single:Bool} {s_h s_t s_m:Int} {s_slots:List Slot} {s_sends s_recvs:List Int} {s_fe:Int} {s_fl:List Int} {s_ee:Int} {s_el:List Int} {s_now:Int} {s_thr:List Thread} {s_log:List Entry} (h6:s_thr.length≤100000000):Con Tryz.prog 217 [.agg [.int .i64 s_lg,.int .i64 s_th,.int .i64 s_pol,.int .i64 s_wt,.int .i64 s_spin,.int .i64 s_yld,.bool s_single,.int .i64 s_h,.int .i64 s_t,.int .i64 s_m,.slv 2 (s_slots.map encS),.slv 1 (s_sends.map encI),.slv 1 (s_recvs.map encI),.int .i64 s_fe,.slv 1 (s_fl.map encI),.int .i64 s_ee,.slv 1 (s_el.map encI),.int .i64 s_now,.slv 11 (s_thr.map encT),.slv 5 (s_log.map encE)]] (.bool (fabCheck (State.mk (Config.mk s_lg s_th s_pol s_wt s_spin s_yld s_single) (Word.mk s_h s_t s_m) s_slots s_sends s_recvs (Event.mk s_fe s_fl) (Event.mk s_ee s_el) s_now s_thr s_log)),[],[]):=by
  refine mcb_of_vc mix x217 (by simp [F217]) fun hw _=>?_
  clear hw
  repeat' with_reducible first|refine gTn_of (fun h=>?_) (fun h=>?_)|refine gT_of (fun h=>?_) (fun h=>?_)|refine caseTn_of (fun h=>?_) (fun h=>?_)|refine caseT_of (fun h=>?_) (fun h=>?_)|refine FN ?_ ?_ ?_ ?_ rfl ?_|refine kv_ifn ?_ ?_|refine kv_if ?_ ?_|refine k_if ?_ ?_|refine IA ?_ ?_ ?_|refine L1 ?_ ?_|refine L2 ?_ ?_|refine L3 ?_ ?_ ?_ ?_|refine L4 ?_ ?_|refine L5 ?_ ?_ ?_ ?_ ?_|refine L6 ?_ ?_ ?_ ?_ ?_|refine ia_of (d:=default) ?_ ?_|refine P0 (con254) ?_ ?_ ?_|refine ACV.of (con254) ?_ ?_ ?_|refine ACK.of (con254) ?_ ?_|refine P0 (con255) ?_ ?_ ?_|refine ACV.of (con255) ?_ ?_ ?_|refine ACK.of (con255) ?_ ?_|refine P0 (con242) ?_ ?_ ?_|refine ACV.of (con242) ?_ ?_ ?_|refine ACK.of (con242) ?_ ?_|refine P0 (con164) ?_ ?_ ?_|refine ACV.of (con164) ?_ ?_ ?_|refine ACK.of (con164) ?_ ?_|refine P0 (con168) ?_ ?_ ?_|refine ACV.of (con168) ?_ ?_ ?_|refine ACK.of (con168) ?_ ?_|refine P0 (con256) ?_ ?_ ?_|refine ACV.of (con256) ?_ ?_ ?_|refine ACK.of (con256) ?_ ?_|simp -implicitDefEqProofs only [F217,qA,ld_0,ld_pv,st_0,splice,doEqs,qU,List.reduceReplicate,Nat.reduceAdd,Nat.reduceSub,Nat.reduceLeDiff,Nat.reduceEqDiff,Nat.reduceMul,reduceIte,reduceCtorEq,qI,Nat.reduceLT,Nat.reduceBEq,up_s,Int.toNat_natCast,encT,encX,encW,encV,Int.natCast_zero,lm_normal,lm_exit,lm_ret,nl_s,nl_0, *]
  all_goals first
    | refine lm_of 5 (fun i:Nat=>nl 1 (some (.ptr 2 0 0) :: nl 1 (some (.int .i64 (confRoom (Config.mk s_lg s_th s_pol s_wt s_spin s_yld s_single))) :: some (.int .i64 i) :: nl 100 []))) (fun _=>[(2,.rows 33 20 [[.int .i64 s_lg,.int .i64 s_th,.int .i64 s_pol,.int .i64 s_wt,.int .i64 s_spin,.int .i64 s_yld,.bool s_single,.int .i64 s_h,.int .i64 s_t,.int .i64 s_m,.slv 2 (s_slots.map encS),.slv 1 (s_sends.map encI),.slv 1 (s_recvs.map encI),.int .i64 s_fe,.slv 1 (s_fl.map encI),.int .i64 s_ee,.slv 1 (s_el.map encI),.int .i64 s_now,.slv 11 (s_thr.map encT),.slv 5 (s_log.map encE)]])]) (fun i=>i≤s_thr.length∧thr6 s_thr i) (fun i=>s_thr.length - i) [] [(1,2)] 0 (by omega) ?_ ?_ ?_ ?_ ?_ ?_
    | (rw [fc_no (s:=(State.mk (Config.mk s_lg s_th s_pol s_wt s_spin s_yld s_single) (Word.mk s_h s_t s_m) s_slots s_sends s_recvs (Event.mk s_fe s_fl) (Event.mk s_ee s_el) s_now s_thr s_log)) (by simp only [cond_true,cond_false,decide_eq_true_eq,decide_eq_false_iff_not,Bool.not_eq_true',Bool.not_eq_false'] at *; omega)]; exact Wk.refl _)
    | trace_state
  rotate_right
  · rintro i ⟨hi,hJ⟩
    have q1:¬ confRoom (Config.mk s_lg s_th s_pol s_wt s_spin s_yld s_single)=0:=(of_decide_eq_false (by assumption))
    simp only [all_some,all_none,all_nil,nl_s,nl_0]
    intros
    repeat' with_reducible first|refine gTn_of (fun h=>?_) (fun h=>?_)|refine gT_of (fun h=>?_) (fun h=>?_)|refine caseTn_of (fun h=>?_) (fun h=>?_)|refine caseT_of (fun h=>?_) (fun h=>?_)|refine FN ?_ ?_ ?_ ?_ rfl ?_|refine kv_ifn ?_ ?_|refine kv_if ?_ ?_|refine k_if ?_ ?_|refine IA ?_ ?_ ?_|refine L1 ?_ ?_|refine L2 ?_ ?_|refine L3 ?_ ?_ ?_ ?_|refine L4 ?_ ?_|refine L5 ?_ ?_ ?_ ?_ ?_|refine L6 ?_ ?_ ?_ ?_ ?_|refine ia_of (d:=default) ?_ ?_|refine rm_of [] [(2,2)] (i+1) ?_ ?_ ?_ ?_ ?_ ?_|refine P0 (con254) ?_ ?_ ?_|refine ACV.of (con254) ?_ ?_ ?_|refine ACK.of (con254) ?_ ?_|refine P0 (con255) ?_ ?_ ?_|refine ACV.of (con255) ?_ ?_ ?_|refine ACK.of (con255) ?_ ?_|refine P0 (con242) ?_ ?_ ?_|refine ACV.of (con242) ?_ ?_ ?_|refine ACK.of (con242) ?_ ?_|refine P0 (con164) ?_ ?_ ?_|refine ACV.of (con164) ?_ ?_ ?_|refine ACK.of (con164) ?_ ?_|refine P0 (con168) ?_ ?_ ?_|refine ACV.of (con168) ?_ ?_ ?_|refine ACK.of (con168) ?_ ?_|refine P0 (con256) ?_ ?_ ?_|refine ACV.of (con256) ?_ ?_ ?_|refine ACK.of (con256) ?_ ?_|simp -implicitDefEqProofs only [F217,qA,ld_0,ld_pv,st_0,splice,doEqs,qU,List.reduceReplicate,Nat.reduceAdd,Nat.reduceSub,Nat.reduceLeDiff,Nat.reduceEqDiff,Nat.reduceMul,reduceIte,reduceCtorEq,qI,Nat.reduceLT,Nat.reduceBEq,up_s,Int.toNat_natCast,encT,encX,encW,encV,Int.natCast_zero,lm_normal,lm_exit,lm_ret,nl_s,nl_0, *]
    all_goals first
      | (have hlt:=of_decide_eq_true (by assumption:decide ((i:Int)<(s_thr.length:Int))=true)
         have hil:i<s_thr.length:=by omega
         first
         | omega
         | exact ⟨by omega,by omega⟩
         | (rw [wrap64 (by omega) (by omega)]; omega)
         | (rw [fc_thr (s:=(State.mk (Config.mk s_lg s_th s_pol s_wt s_spin s_yld s_single) (Word.mk s_h s_t s_m) s_slots s_sends s_recvs (Event.mk s_fe s_fl) (Event.mk s_ee s_el) s_now s_thr s_log)) hil (by assumption)]; exact Wk.refl _)
         | exact ⟨by omega,thr6_s hJ (by assumption)⟩)
      | (have hge:=of_decide_eq_false (by assumption:decide ((i:Int)<(s_thr.length:Int))=false)
         obtain rfl:i=s_thr.length:=by omega
         have e:=fc_all (s:=(State.mk (Config.mk s_lg s_th s_pol s_wt s_spin s_yld s_single) (Word.mk s_h s_t s_m) s_slots s_sends s_recvs (Event.mk s_fe s_fl) (Event.mk s_ee s_el) s_now s_thr s_log)) q1 (of_decide_eq_true (by assumption)) (of_decide_eq_true (by assumption)) (of_decide_eq_false (by assumption)) (of_decide_eq_false (by assumption)) hJ
         simp only [] at e
         refine Wk.of_eq ?_
         rw [e]
         simp [*]
         done)
      | trace_state
  all_goals first
    | omega
    | exact ⟨Nat.zero_le _,fun j hj=>absurd hj (Nat.not_lt_zero j)⟩
    | (simp -implicitDefEqProofs only [qA,ld_0,ld_pv,st_0,splice,doEqs,qU,List.reduceReplicate,Nat.reduceAdd,Nat.reduceSub,Nat.reduceLeDiff,Nat.reduceEqDiff,Nat.reduceMul,reduceIte,reduceCtorEq,qI,Nat.reduceLT,Nat.reduceBEq,qZ,nl_s,nl_0]; first | done | (simp; done))
    | trace_state

def F174:AFn:=⟨24,(.seq (.reg [o1 2 (.box 33 0),o1 4 (.mv (ci 0))]) (.seq (.reg [o1 6 (.ld 20 true 2),o1 7 (.call 217 [6]),o1 5 (.mv 7)]) (.seq (.seq (.reg [o1 8 (.mv 5),o1 9 (.not 8),o1 10 (.mv 9),o4 11 (.mv 1) 10,o4 12 (.bin .lss 11 (ci 0)) 10,o1 13 (.pick 10 (.const (.bool true)) 12)]) (.cond 13 (.seq (.reg [o1 4 (.mv (ci 0))]) .ret) .skip)) (.seq (.regT [o1 14 (.faddr 10 2),o1 15 (.ld 1 false 14),o1 16 (.mv 1),o1 17 (.faddr 10 2),o1 18 (.ld 1 false 17),o1 19 (.len 18),o1 20 (.call 194 [16,19]),o1 21 (.iaddr 2 15 20),o1 22 (.faddr 1 21),o1 23 (.ld 1 false 22),o1 4 (.mv 23)] [(0,3),(1,3),(0,4),(1,4),(0,5),(1,5),(0,6),(1,6)]) .ret)))),[(4,none)]⟩
theorem x174:xf Tryz.prog 174=some F174:=by kernel_rfl
theorem con174 {s_lg s_th:Int} {s_pol s_wt:Int} {s_spin s_yld:Int} {s_single:Bool} {s_h s_t s_m:Int} {s_slots:List Slot} {s_sends s_recvs:List Int} {s_fe:Int} {s_fl:List Int} {s_ee:Int} {s_el:List Int} {s_now:Int} {s_thr:List Thread} {s_log:List Entry} {p:Int} (h6:s_thr.length≤100000000):Con Tryz.prog 174 [.agg [.int .i64 s_lg,.int .i64 s_th,.int .i64 s_pol,.int .i64 s_wt,.int .i64 s_spin,.int .i64 s_yld,.bool s_single,.int .i64 s_h,.int .i64 s_t,.int .i64 s_m,.slv 2 (s_slots.map encS),.slv 1 (s_sends.map encI),.slv 1 (s_recvs.map encI),.int .i64 s_fe,.slv 1 (s_fl.map encI),.int .i64 s_ee,.slv 1 (s_el.map encI),.int .i64 s_now,.slv 11 (s_thr.map encT),.slv 5 (s_log.map encE)],.int .i64 p] (.int .i64 (fabValue (State.mk (Config.mk s_lg s_th s_pol s_wt s_spin s_yld s_single) (Word.mk s_h s_t s_m) s_slots s_sends s_recvs (Event.mk s_fe s_fl) (Event.mk s_ee s_el) s_now s_thr s_log) p),[],[]):=by
  have hlo:0≤p→0≤posPlace p s_slots.length:=posPlace_lo p s_slots.length
  have hhi:fabCheck (State.mk (Config.mk s_lg s_th s_pol s_wt s_spin s_yld s_single) (Word.mk s_h s_t s_m) s_slots s_sends s_recvs (Event.mk s_fe s_fl) (Event.mk s_ee s_el) s_now s_thr s_log)=true→posPlace p s_slots.length<s_slots.length:=fun h=>posPlace_hi p s_slots.length (by have:=slotCheck_room h; simp only [] at this; omega)
  refine mcb_of_vc mix x174 (by simp [F174]) fun hw _=>?_
  clear hw
  repeat' with_reducible first|refine gTn_of (fun h=>?_) (fun h=>?_)|refine gT_of (fun h=>?_) (fun h=>?_)|refine caseTn_of (fun h=>?_) (fun h=>?_)|refine caseT_of (fun h=>?_) (fun h=>?_)|refine FN ?_ ?_ ?_ ?_ rfl ?_|refine kv_ifn ?_ ?_|refine kv_if ?_ ?_|refine k_if ?_ ?_|refine IA ?_ ?_ ?_|refine L1 ?_ ?_|refine L2 ?_ ?_|refine L3 ?_ ?_ ?_ ?_|refine L4 ?_ ?_|refine L5 ?_ ?_ ?_ ?_ ?_|refine L6 ?_ ?_ ?_ ?_ ?_|refine ia_of (d:=default) ?_ ?_|refine ap_of (rw_slv _ _ _) (by simp -implicitDefEqProofs only [m_get,Nat.reduceEqDiff,reduceIte,if_true,if_false]; first|done|exact rfl) ?_ ?_ ?_ ?_|refine ap_of (rw_slm _ _ _ _ _ _ (by simp -implicitDefEqProofs only [m_get,Nat.reduceEqDiff,reduceIte,if_true,if_false]; first|done|exact rfl) ?_) (by simp -implicitDefEqProofs only [m_get,Nat.reduceEqDiff,reduceIte,if_true,if_false]; first|done|exact rfl) ?_ ?_ ?_ ?_|refine P0 (con217 ?_) ?_ ?_ ?_|refine P0 (con194) ?_ ?_ ?_|refine ACV.of (con194) ?_ ?_ ?_|refine ACK.of (con194) ?_ ?_|simp -implicitDefEqProofs only [F174,qA,ld_0,ld_pv,st_0,splice,doEqs,qU,List.reduceReplicate,Nat.reduceAdd,Nat.reduceSub,Nat.reduceLeDiff,Nat.reduceEqDiff,Nat.reduceMul,reduceIte,reduceCtorEq,qI,Nat.reduceLT,Nat.reduceBEq,up_s,Int.toNat_natCast,encT,encX,encW,encV,encI,encS,Int.natCast_zero,doBslice,trss_append, *]
  all_goals first
    | omega
    | exact Wk.refl _
    | exact hlo (by have:=of_decide_eq_false (by assumption:decide (p<0)=false); omega)
    | exact hhi (by assumption)
    | exact ⟨hlo (by have:=of_decide_eq_false (by assumption:decide (p<0)=false); omega),hhi (by assumption)⟩
    | (have h9:fabCheck (State.mk (Config.mk s_lg s_th s_pol s_wt s_spin s_yld s_single) (Word.mk s_h s_t s_m) s_slots s_sends s_recvs (Event.mk s_fe s_fl) (Event.mk s_ee s_el) s_now s_thr s_log)=false:=by assumption
       refine Wk.of_eq ?_; unfold fabValue; rw [if_pos (.inl (by simp [h9]))]; done)
    | (refine Wk.of_eq ?_; unfold fabValue; rw [if_pos (.inr (of_decide_eq_true (by assumption)))]; done)
    | (refine Wk.of_eq ?_; unfold fabValue; rw [if_neg (by simp only [not_or,Classical.not_not]; exact ⟨(of_decide_eq_false (by assumption)),by assumption⟩)]; rfl)
    | (refine Wk.of_eq ?_; unfold fabValue; rw [if_neg (by simp only [not_or,Classical.not_not]; exact ⟨by assumption,(of_decide_eq_false (by assumption))⟩)]; rfl)
    | trace_state

def F135:AFn:=⟨20,(.seq (.reg [o1 2 (.box 33 0),o1 4 (.mv (.const (.bool false)))]) (.seq (.reg [o1 6 (.ld 20 true 2),o1 7 (.call 217 [6]),o1 5 (.mv 7)]) (.seq (.reg [o1 8 (.mv 5),o1 9 (.mv 8),o3 10 (.mv 1) 9,o3 11 (.bin .geq 10 (ci 0)) 9,o1 12 (.pick 9 11 (.const (.bool false))),o1 13 (.mv 12),o3 14 (.mv 1) 13,o3 15 (.faddr 18 2) 13,o3 16 (.ld 1 false 15) 13,o3 17 (.len 16) 13,o3 18 (.bin .lss 14 17) 13,o1 19 (.pick 13 18 (.const (.bool false))),o1 4 (.mv 19)]) .ret))),[(4,none)]⟩
theorem x135:xf Tryz.prog 135=some F135:=by kernel_rfl
theorem con135 {s_lg s_th:Int} {s_pol s_wt:Int} {s_spin s_yld:Int} {s_single:Bool} {s_h s_t s_m:Int} {s_slots:List Slot} {s_sends s_recvs:List Int} {s_fe:Int} {s_fl:List Int} {s_ee:Int} {s_el:List Int} {s_now:Int} {s_thr:List Thread} {s_log:List Entry} {id:Int} (h6:s_thr.length≤100000000):Con Tryz.prog 135 [.agg [.int .i64 s_lg,.int .i64 s_th,.int .i64 s_pol,.int .i64 s_wt,.int .i64 s_spin,.int .i64 s_yld,.bool s_single,.int .i64 s_h,.int .i64 s_t,.int .i64 s_m,.slv 2 (s_slots.map encS),.slv 1 (s_sends.map encI),.slv 1 (s_recvs.map encI),.int .i64 s_fe,.slv 1 (s_fl.map encI),.int .i64 s_ee,.slv 1 (s_el.map encI),.int .i64 s_now,.slv 11 (s_thr.map encT),.slv 5 (s_log.map encE)],.int .i64 id] (.bool (fabIs (State.mk (Config.mk s_lg s_th s_pol s_wt s_spin s_yld s_single) (Word.mk s_h s_t s_m) s_slots s_sends s_recvs (Event.mk s_fe s_fl) (Event.mk s_ee s_el) s_now s_thr s_log) id),[],[]):=by
  refine mcb_of_vc mix x135 (by simp [F135]) fun hw _=>?_
  clear hw
  repeat' with_reducible first|refine gTn_of (fun h=>?_) (fun h=>?_)|refine gT_of (fun h=>?_) (fun h=>?_)|refine caseTn_of (fun h=>?_) (fun h=>?_)|refine caseT_of (fun h=>?_) (fun h=>?_)|refine FN ?_ ?_ ?_ ?_ rfl ?_|refine kv_ifn ?_ ?_|refine kv_if ?_ ?_|refine k_if ?_ ?_|refine IA ?_ ?_ ?_|refine L1 ?_ ?_|refine L2 ?_ ?_|refine L3 ?_ ?_ ?_ ?_|refine L4 ?_ ?_|refine L5 ?_ ?_ ?_ ?_ ?_|refine L6 ?_ ?_ ?_ ?_ ?_|refine ia_of (d:=default) ?_ ?_|refine ap_of (rw_slv _ _ _) (by simp -implicitDefEqProofs only [m_get,Nat.reduceEqDiff,reduceIte,if_true,if_false]; first|done|exact rfl) ?_ ?_ ?_ ?_|refine ap_of (rw_slm _ _ _ _ _ _ (by simp -implicitDefEqProofs only [m_get,Nat.reduceEqDiff,reduceIte,if_true,if_false]; first|done|exact rfl) ?_) (by simp -implicitDefEqProofs only [m_get,Nat.reduceEqDiff,reduceIte,if_true,if_false]; first|done|exact rfl) ?_ ?_ ?_ ?_|refine P0 (con217 ?_) ?_ ?_ ?_|simp -implicitDefEqProofs only [F135,qA,ld_0,ld_pv,st_0,splice,doEqs,qU,List.reduceReplicate,Nat.reduceAdd,Nat.reduceSub,Nat.reduceLeDiff,Nat.reduceEqDiff,Nat.reduceMul,reduceIte,reduceCtorEq,qI,Nat.reduceLT,Nat.reduceBEq,up_s,Int.toNat_natCast,encT,encX,encW,encV,encI,encS,Int.natCast_zero,doBslice,trss_append, *]
  all_goals first
    | omega
    | exact Wk.refl _
    | (refine Wk.of_eq ?_; simp [fabIs, *]; done)
    | (refine Wk.of_eq ?_; unfold fabIs; simp only [*,Bool.true_and,Bool.false_and]; done)
    | trace_state

def F76:AFn:=⟨18,(.seq (.reg [o1 3 (.box 33 0),o1 5 (.box 48 2),o1 6 (.alloc 33 [(.int .i64 0),(.int .i64 0),(.int .i64 0),(.int .i64 0),(.int .i64 0),(.int .i64 0),(.bool false),(.int .i64 0),(.int .i64 0),(.int .i64 0),.slnil,.slnil,.slnil,(.int .i64 0),.slnil,(.int .i64 0),.slnil,(.int .i64 0),.slnil,.slnil])]) (.seq (.reg [o1 7 (.bslice 48 11 0 []),o1 8 (.faddr 18 3),o1 9 (.ld 1 false 8),o1 10 (.app 48 11 88 7 9),o1 11 (.faddr 18 3),o2 (.st 1 11 10)]) (.seq (.reg [o1 12 (.faddr 18 3),o1 13 (.ld 1 false 12),o1 14 (.mv 1),o1 15 (.ld 11 true 5),o1 16 (.iaddr 11 13 14),o2 (.st 11 16 15)]) (.seq (.reg [o1 17 (.ld 20 true 3),o2 (.st 20 6 17)]) .ret)))),[(6,some (20,true))]⟩
theorem x76:xf Tryz.prog 76=some F76:=by kernel_rfl
theorem lt_of_is {s:State} {id:Int} (h:fabIs s id=true):0≤id∧id<s.threads.length∧id.toNat<s.threads.length:=by
  simp only [fabIs,Bool.and_eq_true,decide_eq_true_eq] at h; omega
theorem con76 {s_lg s_th:Int} {s_pol s_wt:Int} {s_spin s_yld:Int} {s_single:Bool} {s_h s_t s_m:Int} {s_slots:List Slot} {s_sends s_recvs:List Int} {s_fe:Int} {s_fl:List Int} {s_ee:Int} {s_el:List Int} {s_now:Int} {s_thr:List Thread} {s_log:List Entry} {id:Int} {t_st t_kind t_val t_untl t_pc t_reg t_seen t_tries:Int} {t_late:Bool} {t_res t_got:Int} (h6:s_thr.length≤100000000) (h0:0≤id) (hlt:id<s_thr.length):Con Tryz.prog 76 [.agg [.int .i64 s_lg,.int .i64 s_th,.int .i64 s_pol,.int .i64 s_wt,.int .i64 s_spin,.int .i64 s_yld,.bool s_single,.int .i64 s_h,.int .i64 s_t,.int .i64 s_m,.slv 2 (s_slots.map encS),.slv 1 (s_sends.map encI),.slv 1 (s_recvs.map encI),.int .i64 s_fe,.slv 1 (s_fl.map encI),.int .i64 s_ee,.slv 1 (s_el.map encI),.int .i64 s_now,.slv 11 (s_thr.map encT),.slv 5 (s_log.map encE)],.int .i64 id,.agg [.int .i64 t_st,.int .i64 t_kind,.int .i64 t_val,.int .i64 t_untl,.int .i64 t_pc,.int .i64 t_reg,.int .i64 t_seen,.int .i64 t_tries,.bool t_late,.int .i64 t_res,.int .i64 t_got]] (.agg (encZ (put1 (State.mk (Config.mk s_lg s_th s_pol s_wt s_spin s_yld s_single) (Word.mk s_h s_t s_m) s_slots s_sends s_recvs (Event.mk s_fe s_fl) (Event.mk s_ee s_el) s_now s_thr s_log) id ⟨t_st,t_kind,t_val,t_untl,t_pc,t_reg,t_seen,t_tries,t_late,t_res,t_got⟩)),[],[]):=by
  have hid:id.toNat<s_thr.length:=by omega
  refine mcb_of_vc mix x76 (by simp [F76]) fun hw _=>?_
  clear hw
  repeat' with_reducible first|refine gTn_of (fun h=>?_) (fun h=>?_)|refine gT_of (fun h=>?_) (fun h=>?_)|refine caseTn_of (fun h=>?_) (fun h=>?_)|refine caseT_of (fun h=>?_) (fun h=>?_)|refine FN ?_ ?_ ?_ ?_ rfl ?_|refine kv_ifn ?_ ?_|refine kv_if ?_ ?_|refine k_if ?_ ?_|refine IA ?_ ?_ ?_|refine L1 ?_ ?_|refine L2 ?_ ?_|refine L3 ?_ ?_ ?_ ?_|refine L4 ?_ ?_|refine L5 ?_ ?_ ?_ ?_ ?_|refine L6 ?_ ?_ ?_ ?_ ?_|refine ia_of (d:=default) ?_ ?_|refine ap_of (rw_slv _ _ _) (by simp -implicitDefEqProofs only [m_get,Nat.reduceEqDiff,reduceIte,if_true,if_false]; first|done|exact rfl) ?_ ?_ ?_ ?_|refine ap_of (rw_slm _ _ _ _ _ _ (by simp -implicitDefEqProofs only [m_get,Nat.reduceEqDiff,reduceIte,if_true,if_false]; first|done|exact rfl) ?_) (by simp -implicitDefEqProofs only [m_get,Nat.reduceEqDiff,reduceIte,if_true,if_false]; first|done|exact rfl) ?_ ?_ ?_ ?_|refine st_row (enc:=encT) (d:=default) (y:=⟨t_st,t_kind,t_val,t_untl,t_pc,t_reg,t_seen,t_tries,t_late,t_res,t_got⟩) (by simp -implicitDefEqProofs only [m_get,Nat.reduceEqDiff,reduceIte,if_true,if_false]; first|done|exact rfl) ?_ ?_ ?_ ?_ (by simp -implicitDefEqProofs only [encT,splice,AV.cells,List.take_succ_cons,List.take_zero,List.drop_succ_cons,List.drop_zero,List.cons_append,List.nil_append,List.append_nil,List.length_cons,List.length_nil,Nat.reduceAdd,Nat.zero_add]; exact rfl) ?_|simp -implicitDefEqProofs only [F76,qA,ld_0,ld_pv,st_0,splice,doEqs,qU,List.reduceReplicate,Nat.reduceAdd,Nat.reduceSub,Nat.reduceLeDiff,Nat.reduceEqDiff,Nat.reduceMul,reduceIte,reduceCtorEq,qI,Nat.reduceLT,Nat.reduceBEq,up_s,Int.toNat_natCast,encT,encX,encW,encV,encI,encS,Int.natCast_zero,doBslice,trss_append, *]
  all_goals first
    | omega
    | exact Wk.refl _
    | exact ⟨h0,hlt⟩
    | (simp; omega)
    | (rw [List.take_of_length_le (by simp)]; exact Wk.refl _)
    | trace_state

theorem con135s {s:State} {id:Int} (h:s.threads.length≤100000000):Con Tryz.prog 135 [.agg (encZ s),.int .i64 id] (.bool (fabIs s id),[],[]):=con135 h
theorem con174s {s:State} {p:Int} (h:s.threads.length≤100000000):Con Tryz.prog 174 [.agg (encZ s),.int .i64 p] (.int .i64 (fabValue s p),[],[]):=con174 h
theorem con76s {s:State} {id:Int} {t_st t_kind t_val t_untl t_pc t_reg t_seen t_tries:Int} {t_late:Bool} {t_res t_got:Int} (h:s.threads.length≤100000000) (h0:0≤id) (hlt:id<s.threads.length):Con Tryz.prog 76 [.agg (encZ s),.int .i64 id,.agg [.int .i64 t_st,.int .i64 t_kind,.int .i64 t_val,.int .i64 t_untl,.int .i64 t_pc,.int .i64 t_reg,.int .i64 t_seen,.int .i64 t_tries,.bool t_late,.int .i64 t_res,.int .i64 t_got]] (.agg (encZ (put1 s id ⟨t_st,t_kind,t_val,t_untl,t_pc,t_reg,t_seen,t_tries,t_late,t_res,t_got⟩)),[],[]):=con76 h h0 hlt
def F176:AFn:=⟨51,(.seq (.reg [o1 5 (.box 33 0),o1 10 (.alloc 33 [(.int .i64 0),(.int .i64 0),(.int .i64 0),(.int .i64 0),(.int .i64 0),(.int .i64 0),(.bool false),(.int .i64 0),(.int .i64 0),(.int .i64 0),.slnil,.slnil,.slnil,(.int .i64 0),.slnil,(.int .i64 0),.slnil,(.int .i64 0),.slnil,.slnil])]) (.seq (.reg [o1 14 (.ld 20 true 5),o1 15 (.mv 1),o1 16 (.call 135 [14,15]),o1 11 (.mv 16)]) (.seq (.seq (.reg [o1 17 (.mv 11),o1 18 (.not 17)]) (.cond 18 (.seq (.reg [o1 19 (.ld 20 true 5),o2 (.st 20 10 19)]) .ret) .skip)) (.seq (.reg [o1 20 (.faddr 18 5),o1 21 (.ld 1 false 20),o1 22 (.mv 1),o1 23 (.iaddr 11 21 22),o1 24 (.ld 11 true 23),o1 12 (.alloc 48 [(.int .i64 0),(.int .i64 0),(.int .i64 0),(.int .i64 0),(.int .i64 0),(.int .i64 0),(.int .i64 0),(.int .i64 0),(.bool false),(.int .i64 0),(.int .i64 0)]),o2 (.st 11 12 24)]) (.seq (.reg [o1 25 (.mv 1),o1 26 (.mv 2),o1 27 (.faddr 2 12),o1 28 (.ld 1 false 27),o1 29 (.mv 3),o1 30 (.mv 4),o1 31 (.build [(.int .i64 0),(.int .i64 0),(.int .i64 0),(.int .i64 0),(.int .i64 0)] [(0,1,25),(1,1,26),(2,1,28),(3,1,29),(4,1,30)]),o1 13 (.alloc 79 [(.int .i64 0),(.int .i64 0),(.int .i64 0),(.int .i64 0),(.int .i64 0)]),o2 (.st 5 13 31)]) (.seq (.seq (.reg [o1 32 (.mv 2),o1 33 (.bin .neq 32 (ci 9))]) (.cond 33 (.seq (.reg [o1 34 (.mv 3),o1 35 (.faddr 9 12),o2 (.st 1 35 34)]) (.reg [o1 36 (.mv 4),o1 37 (.faddr 10 12),o2 (.st 1 37 36)])) .skip)) (.seq (.reg [o1 38 (.ld 20 true 5),o1 39 (.mv 1),o1 40 (.ld 11 true 12),o1 41 (.call 76 [38,39,40]),o2 (.st 20 5 41)]) (.seq (.regT [o1 42 (.bslice 79 5 0 []),o1 43 (.faddr 19 5),o1 44 (.ld 1 false 43),o1 45 (.app 79 5 40 42 44),o1 46 (.ld 5 true 13),o1 47 (.bslice 79 5 1 [46]),o1 48 (.app 79 5 40 45 47),o1 49 (.faddr 19 5),o2 (.st 1 49 48)] [(0,1),(0,2),(0,4),(1,4),(2,4),(3,4),(0,5),(1,5),(2,5),(3,5)]) (.seq (.reg [o1 50 (.ld 20 true 5),o2 (.st 20 10 50)]) .ret))))))))),[(10,some (20,true))]⟩
theorem x176:xf Tryz.prog 176=some F176:=by kernel_rfl
theorem con176 {s_lg s_th:Int} {s_pol s_wt:Int} {s_spin s_yld:Int} {s_single:Bool} {s_h s_t s_m:Int} {s_slots:List Slot} {s_sends s_recvs:List Int} {s_fe:Int} {s_fl:List Int} {s_ee:Int} {s_el:List Int} {s_now:Int} {s_thr:List Thread} {s_log:List Entry} {id kind res got:Int} (h6:s_thr.length≤100000000) (h7:s_log.length≤100000000):Con Tryz.prog 176 [.agg [.int .i64 s_lg,.int .i64 s_th,.int .i64 s_pol,.int .i64 s_wt,.int .i64 s_spin,.int .i64 s_yld,.bool s_single,.int .i64 s_h,.int .i64 s_t,.int .i64 s_m,.slv 2 (s_slots.map encS),.slv 1 (s_sends.map encI),.slv 1 (s_recvs.map encI),.int .i64 s_fe,.slv 1 (s_fl.map encI),.int .i64 s_ee,.slv 1 (s_el.map encI),.int .i64 s_now,.slv 11 (s_thr.map encT),.slv 5 (s_log.map encE)],.int .i64 id,.int .i64 kind,.int .i64 res,.int .i64 got] (.agg (encZ (fabTell (State.mk (Config.mk s_lg s_th s_pol s_wt s_spin s_yld s_single) (Word.mk s_h s_t s_m) s_slots s_sends s_recvs (Event.mk s_fe s_fl) (Event.mk s_ee s_el) s_now s_thr s_log) id kind res got)),[],[]):=by
  refine mcb_of_vc mix x176 (by simp [F176]) fun hw _=>?_
  clear hw
  repeat' with_reducible first|refine gTn_of (fun h=>?_) (fun h=>?_)|refine gT_of (fun h=>?_) (fun h=>?_)|refine caseTn_of (fun h=>?_) (fun h=>?_)|refine caseT_of (fun h=>?_) (fun h=>?_)|refine FN ?_ ?_ ?_ ?_ rfl ?_|refine kv_ifn ?_ ?_|refine kv_if ?_ ?_|refine k_if ?_ ?_|refine IA ?_ ?_ ?_|refine L1 ?_ ?_|refine L2 ?_ ?_|refine L3 ?_ ?_ ?_ ?_|refine L4 ?_ ?_|refine L5 ?_ ?_ ?_ ?_ ?_|refine L6 ?_ ?_ ?_ ?_ ?_|refine ia_of (d:=default) ?_ ?_|refine ap_of (rw_slv _ _ _) (by simp -implicitDefEqProofs only [m_get,Nat.reduceEqDiff,reduceIte,if_true,if_false]; first|done|exact rfl) ?_ ?_ ?_ ?_|refine ap_of (rw_slm _ _ _ _ _ _ (by simp -implicitDefEqProofs only [m_get,Nat.reduceEqDiff,reduceIte,if_true,if_false]; first|done|exact rfl) ?_) (by simp -implicitDefEqProofs only [m_get,Nat.reduceEqDiff,reduceIte,if_true,if_false]; first|done|exact rfl) ?_ ?_ ?_ ?_|refine P0 (con135 ?_) ?_ ?_ ?_|refine P0 (con76 ?_ ?_ ?_) ?_ ?_ ?_|simp -implicitDefEqProofs only [F176,qA,ld_0,ld_pv,st_0,splice,doEqs,qU,List.reduceReplicate,Nat.reduceAdd,Nat.reduceSub,Nat.reduceLeDiff,Nat.reduceEqDiff,Nat.reduceMul,reduceIte,reduceCtorEq,qI,Nat.reduceLT,Nat.reduceBEq,up_s,Int.toNat_natCast,encT,encZ,encX,encW,encV,put1,Int.natCast_zero,doBslice,trss_append, *]
  all_goals first
    | omega
    | exact Wk.refl _
    | exact (lt_of_is (s:=(State.mk (Config.mk s_lg s_th s_pol s_wt s_spin s_yld s_single) (Word.mk s_h s_t s_m) s_slots s_sends s_recvs (Event.mk s_fe s_fl) (Event.mk s_ee s_el) s_now s_thr s_log)) (by assumption)).1
    | exact (lt_of_is (s:=(State.mk (Config.mk s_lg s_th s_pol s_wt s_spin s_yld s_single) (Word.mk s_h s_t s_m) s_slots s_sends s_recvs (Event.mk s_fe s_fl) (Event.mk s_ee s_el) s_now s_thr s_log)) (by assumption)).2.1
    | exact ⟨(lt_of_is (s:=(State.mk (Config.mk s_lg s_th s_pol s_wt s_spin s_yld s_single) (Word.mk s_h s_t s_m) s_slots s_sends s_recvs (Event.mk s_fe s_fl) (Event.mk s_ee s_el) s_now s_thr s_log)) (by assumption)).1,(lt_of_is (s:=(State.mk (Config.mk s_lg s_th s_pol s_wt s_spin s_yld s_single) (Word.mk s_h s_t s_m) s_slots s_sends s_recvs (Event.mk s_fe s_fl) (Event.mk s_ee s_el) s_now s_thr s_log)) (by assumption)).2.1⟩
    | (have h9:fabIs (State.mk (Config.mk s_lg s_th s_pol s_wt s_spin s_yld s_single) (Word.mk s_h s_t s_m) s_slots s_sends s_recvs (Event.mk s_fe s_fl) (Event.mk s_ee s_el) s_now s_thr s_log) id=false:=by assumption
       refine Wk.of_eq ?_; unfold fabTell; rw [h9]; rfl)
    | (have h9:fabIs (State.mk (Config.mk s_lg s_th s_pol s_wt s_spin s_yld s_single) (Word.mk s_h s_t s_m) s_slots s_sends s_recvs (Event.mk s_fe s_fl) (Event.mk s_ee s_el) s_now s_thr s_log) id=true:=by assumption
       have h8:kind=9:=(of_decide_eq_true (by assumption))
       refine Wk.of_eq ?_
       rw [List.take_of_length_le (by simp)]
       simp only [fabTell,h9,if_true,logged,put1,tTold,me,h8,ne_eq,not_true_eq_false,if_false]
       simp [encE]
       done)
    | (have h9:fabIs (State.mk (Config.mk s_lg s_th s_pol s_wt s_spin s_yld s_single) (Word.mk s_h s_t s_m) s_slots s_sends s_recvs (Event.mk s_fe s_fl) (Event.mk s_ee s_el) s_now s_thr s_log) id=true:=by assumption
       have h8:¬ kind=9:=(of_decide_eq_false (by assumption))
       refine Wk.of_eq ?_
       rw [List.take_of_length_le (by simp)]
       simp only [fabTell,h9,if_true,logged,put1,tTold,me,h8,ne_eq,not_false_eq_true,if_false]
       simp [encE]
       done)
    | exact puress_app (puress_map pure_encE _) rfl
    | trace_state

def F78:AFn:=⟨21,(.seq (.reg [o1 2 (.box 33 0),o1 4 (.alloc 33 [(.int .i64 0),(.int .i64 0),(.int .i64 0),(.int .i64 0),(.int .i64 0),(.int .i64 0),(.bool false),(.int .i64 0),(.int .i64 0),(.int .i64 0),.slnil,.slnil,.slnil,(.int .i64 0),.slnil,(.int .i64 0),.slnil,(.int .i64 0),.slnil,.slnil])]) (.seq (.reg [o1 6 (.ld 20 true 2),o1 7 (.mv 1),o1 8 (.call 135 [6,7]),o1 5 (.mv 8)]) (.seq (.seq (.reg [o1 9 (.mv 5),o1 10 (.not 9)]) (.cond 10 (.seq (.reg [o1 11 (.ld 20 true 2),o2 (.st 20 4 11)]) .ret) .skip)) (.seq (.regT [o1 12 (.ld 20 true 2),o1 13 (.mv 1),o1 14 (.faddr 18 2),o1 15 (.ld 1 false 14),o1 16 (.mv 1),o1 17 (.iaddr 11 15 16),o1 18 (.ld 11 true 17),o1 19 (.call 170 [18]),o1 20 (.call 76 [12,13,19]),o2 (.st 20 4 20)] [(0,2),(0,3),(0,5),(0,6),(0,7)]) .ret)))),[(4,some (20,true))]⟩
theorem x78:xf Tryz.prog 78=some F78:=by kernel_rfl
theorem con78 {s_lg s_th:Int} {s_pol s_wt:Int} {s_spin s_yld:Int} {s_single:Bool} {s_h s_t s_m:Int} {s_slots:List Slot} {s_sends s_recvs:List Int} {s_fe:Int} {s_fl:List Int} {s_ee:Int} {s_el:List Int} {s_now:Int} {s_thr:List Thread} {s_log:List Entry} {id:Int} (h6:s_thr.length≤100000000):Con Tryz.prog 78 [.agg [.int .i64 s_lg,.int .i64 s_th,.int .i64 s_pol,.int .i64 s_wt,.int .i64 s_spin,.int .i64 s_yld,.bool s_single,.int .i64 s_h,.int .i64 s_t,.int .i64 s_m,.slv 2 (s_slots.map encS),.slv 1 (s_sends.map encI),.slv 1 (s_recvs.map encI),.int .i64 s_fe,.slv 1 (s_fl.map encI),.int .i64 s_ee,.slv 1 (s_el.map encI),.int .i64 s_now,.slv 11 (s_thr.map encT),.slv 5 (s_log.map encE)],.int .i64 id] (.agg (encZ (fabWake (State.mk (Config.mk s_lg s_th s_pol s_wt s_spin s_yld s_single) (Word.mk s_h s_t s_m) s_slots s_sends s_recvs (Event.mk s_fe s_fl) (Event.mk s_ee s_el) s_now s_thr s_log) id)),[],[]):=by
  refine mcb_of_vc mix x78 (by simp [F78]) fun hw _=>?_
  clear hw
  repeat' with_reducible first|refine gTn_of (fun h=>?_) (fun h=>?_)|refine gT_of (fun h=>?_) (fun h=>?_)|refine caseTn_of (fun h=>?_) (fun h=>?_)|refine caseT_of (fun h=>?_) (fun h=>?_)|refine FN ?_ ?_ ?_ ?_ rfl ?_|refine kv_ifn ?_ ?_|refine kv_if ?_ ?_|refine k_if ?_ ?_|refine IA ?_ ?_ ?_|refine L1 ?_ ?_|refine L2 ?_ ?_|refine L3 ?_ ?_ ?_ ?_|refine L4 ?_ ?_|refine L5 ?_ ?_ ?_ ?_ ?_|refine L6 ?_ ?_ ?_ ?_ ?_|refine ia_of (d:=default) ?_ ?_|refine ap_of (rw_slv _ _ _) (by simp -implicitDefEqProofs only [m_get,Nat.reduceEqDiff,reduceIte,if_true,if_false]; first|done|exact rfl) ?_ ?_ ?_ ?_|refine ap_of (rw_slm _ _ _ _ _ _ (by simp -implicitDefEqProofs only [m_get,Nat.reduceEqDiff,reduceIte,if_true,if_false]; first|done|exact rfl) ?_) (by simp -implicitDefEqProofs only [m_get,Nat.reduceEqDiff,reduceIte,if_true,if_false]; first|done|exact rfl) ?_ ?_ ?_ ?_|refine P0 (con135 ?_) ?_ ?_ ?_|refine P0 (con76 ?_ ?_ ?_) ?_ ?_ ?_|refine P0 (con170) ?_ ?_ ?_|refine ACV.of (con170) ?_ ?_ ?_|refine ACK.of (con170) ?_ ?_|simp -implicitDefEqProofs only [F78,qA,ld_0,ld_pv,st_0,splice,doEqs,qU,List.reduceReplicate,Nat.reduceAdd,Nat.reduceSub,Nat.reduceLeDiff,Nat.reduceEqDiff,Nat.reduceMul,reduceIte,reduceCtorEq,qI,Nat.reduceLT,Nat.reduceBEq,up_s,Int.toNat_natCast,encT,encZ,encX,encW,encV,put1,Int.natCast_zero,doBslice,trss_append, *]
  all_goals first
    | omega
    | exact Wk.refl _
    | exact (lt_of_is (s:=(State.mk (Config.mk s_lg s_th s_pol s_wt s_spin s_yld s_single) (Word.mk s_h s_t s_m) s_slots s_sends s_recvs (Event.mk s_fe s_fl) (Event.mk s_ee s_el) s_now s_thr s_log)) (by assumption)).1
    | exact (lt_of_is (s:=(State.mk (Config.mk s_lg s_th s_pol s_wt s_spin s_yld s_single) (Word.mk s_h s_t s_m) s_slots s_sends s_recvs (Event.mk s_fe s_fl) (Event.mk s_ee s_el) s_now s_thr s_log)) (by assumption)).2.1
    | exact ⟨(lt_of_is (s:=(State.mk (Config.mk s_lg s_th s_pol s_wt s_spin s_yld s_single) (Word.mk s_h s_t s_m) s_slots s_sends s_recvs (Event.mk s_fe s_fl) (Event.mk s_ee s_el) s_now s_thr s_log)) (by assumption)).1,(lt_of_is (s:=(State.mk (Config.mk s_lg s_th s_pol s_wt s_spin s_yld s_single) (Word.mk s_h s_t s_m) s_slots s_sends s_recvs (Event.mk s_fe s_fl) (Event.mk s_ee s_el) s_now s_thr s_log)) (by assumption)).2.1⟩
    | (have h9:fabIs (State.mk (Config.mk s_lg s_th s_pol s_wt s_spin s_yld s_single) (Word.mk s_h s_t s_m) s_slots s_sends s_recvs (Event.mk s_fe s_fl) (Event.mk s_ee s_el) s_now s_thr s_log) id=false:=by assumption
       refine Wk.of_eq ?_; unfold fabWake; rw [h9]; rfl)
    | (have h9:fabIs (State.mk (Config.mk s_lg s_th s_pol s_wt s_spin s_yld s_single) (Word.mk s_h s_t s_m) s_slots s_sends s_recvs (Event.mk s_fe s_fl) (Event.mk s_ee s_el) s_now s_thr s_log) id=true:=by assumption
       refine Wk.of_eq ?_; unfold fabWake; rw [h9]; rfl)
    | trace_state

end Go.Sak
