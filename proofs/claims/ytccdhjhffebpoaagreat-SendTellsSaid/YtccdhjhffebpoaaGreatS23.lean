/- Part S23 of the proofs about the program: K21, K25, K23. Conditions: none. -/
import Derived.Test.YtccdhjhffebpoaaGreatS22
import Derived.Test.YtccdhjhffebpoaaGreatS04
import Derived.Test.YtccdhjhffebpoaaGreatProg
import Derived.KernelRfl
namespace Go.Sak
open Go Go.RowKit Go.Proofs
set_option linter.unusedVariables false
set_option linter.unusedSimpArgs false
set_option maxRecDepth 10000
set_option maxHeartbeats 8000000
theorem con20_1 {s_lg s_th:Int} {s_pol s_wt:Int} {s_spin s_yld:Int} {s_single:Bool} {s_h s_t s_m:Int} {s_slots:List Slot} {s_sends s_recvs:List Int} {s_fe:Int} {s_fl:List Int} {s_ee:Int} {s_el:List Int} {s_now:Int} {s_thr:List Thread} {s_log:List Entry} {id:Int} (h1:s_slots.length≤100000000) (h2:s_sends.length≤100000000) (h3:s_recvs.length≤100000000) (h4:s_fl.length≤100000000) (h5:s_el.length≤100000000) (h6:s_thr.length≤100000000) (h7:s_log.length≤100000000) (hI:sIs (State.mk (Config.mk s_lg s_th s_pol s_wt s_spin s_yld s_single) (Word.mk s_h s_t s_m) s_slots s_sends s_recvs (Event.mk s_fe s_fl) (Event.mk s_ee s_el) s_now s_thr s_log) id=true) (hpc:(s_thr.getD id.toNat default).pc=1):Con Tryz.prog 20 [.agg [.int .i64 s_lg,.int .i64 s_th,.int .i64 s_pol,.int .i64 s_wt,.int .i64 s_spin,.int .i64 s_yld,.bool s_single,.int .i64 s_h,.int .i64 s_t,.int .i64 s_m,.slv 2 (s_slots.map encS),.slv 1 (s_sends.map encI),.slv 1 (s_recvs.map encI),.int .i64 s_fe,.slv 1 (s_fl.map encI),.int .i64 s_ee,.slv 1 (s_el.map encI),.int .i64 s_now,.slv 11 (s_thr.map encT),.slv 5 (s_log.map encE)],.int .i64 id] (.agg (encZ (sFirst (State.mk (Config.mk s_lg s_th s_pol s_wt s_spin s_yld s_single) (Word.mk s_h s_t s_m) s_slots s_sends s_recvs (Event.mk s_fe s_fl) (Event.mk s_ee s_el) s_now s_thr s_log) id)),[],[]):=by
  have hI':=hI
  simp only [sIs,fabIs,Bool.and_eq_true,decide_eq_true_eq] at hI'
  obtain ⟨⟨⟨⟨hchk,hge⟩,hlt⟩,hruns⟩,hside⟩:=hI'
  have hid:id.toNat<s_thr.length:=by omega
  have hne:s_thr≠[]:=by intro h; subst h; simp at hlt; omega
  refine mcb_of_vc mix x20 (by simp [F20]) fun hw _=>?_
  clear hw
  repeat' with_reducible first|refine gTn_of (fun h=>?_) (fun h=>?_)|refine gT_of (fun h=>?_) (fun h=>?_)|refine caseTn_of (fun h=>?_) (fun h=>?_)|refine caseT_of (fun h=>?_) (fun h=>?_)|refine FN ?_ ?_ ?_ ?_ rfl ?_|refine kv_ifn ?_ ?_|refine kv_if ?_ ?_|refine k_if ?_ ?_|refine I2 mix x57 lf57 ?_ ?_ ?_ ?_ ?_|refine I2 mix x138 lf138 ?_ ?_ ?_ ?_ ?_|refine I2 mix x140 lf140 ?_ ?_ ?_ ?_ ?_|refine I2 mix x147 lf147 ?_ ?_ ?_ ?_ ?_|refine I2 mix x141 lf141 ?_ ?_ ?_ ?_ ?_|refine IA ?_ ?_ ?_|refine L1 ?_ ?_|refine L2 ?_ ?_|refine L3 ?_ ?_ ?_ ?_|refine L4 ?_ ?_|refine L5 ?_ ?_ ?_ ?_ ?_|refine L6 ?_ ?_ ?_ ?_ ?_|refine N1 (con50m ?_ ?_ ?_ ?_ ?_ ?_ ?_ hne) ?_ ?_|refine P0 (con51 ?_ ?_ ?_ ?_ ?_ ?_ ?_) ?_ ?_ ?_|refine I3 mix x68 lf68 ?_ ?_ ?_ ?_ ?_|refine I3 mix x143 lf143 ?_ ?_ ?_ ?_ ?_|refine inr_fin ?_ ?_ ?_ ?_|refine GN 237 ?_ ?_ ?_|refine ACN.of (con237n ?_ ?_ ?_ ?_ ?_ ?_ ?_ ?_) ?_|refine P0 (con139 ?_) ?_ ?_ ?_|refine ACV.of (con139 ?_) ?_ ?_ ?_|refine ACK.of (con139 ?_) ?_ ?_|simp -implicitDefEqProofs only [F20,qA,ld_0,ld_pv,st_0,splice,doEqs,qU,List.reduceReplicate,Nat.reduceAdd,Nat.reduceSub,Nat.reduceLeDiff,Nat.reduceEqDiff,Nat.reduceMul,reduceIte,reduceCtorEq,qI,Nat.reduceLT,Nat.reduceBEq,F57,F138,F140,F147,F141,up_s,Int.toNat_natCast,encT,encX,encV,encW,hpc,hI,Int.reduceToNat,Nat.mul_one,tell_len,wake_len,aa_of,Int.reduceLE,Int.reduceLT,Int.toNat_zero,Int.toNat_one,Int.le_refl,set_set,getD_set_same,F68,F143, *]
  all_goals first
    | omega
    | (constructor <;> omega)
    | exact Wk.refl _
    | (simp only [sIs,Bool.and_eq_true] at hI; with_reducible exact hI.1.1)
    | (refine Wk.of_eq ?_
       have htr:=tries_of hchk hge hlt
       try simp only [decide_eq_true_eq,decide_eq_false_iff_not,Bool.not_eq_true] at *
       unfold sFirst
       try simp only [me] at *
       have hw:=wrap64_tries htr
       clear hchk hI hside hruns htr
       try simp only [*,reduceIte,if_true,if_false,Bool.false_eq_true,and_true,true_and,and_false,false_and,and_self,not_true_eq_false,not_false_eq_true,ne_eq,Int.reduceEq,Int.reduceNe]
       try rw [List.take_of_length_le (by simp [tell_len,wake_len])]
       simp only [encZ,encX,encV,encC,withWord,withSlots,withSends,withFull,withEmpty,rOn,rAt,rEnds,rTell,setPc,setReg,setSeen,put1,setTries,me,getD_set_same,set_set,List.length_set,tf_cfg,tf_word,tf_slots,tf_sends,tf_recvs,tf_full,tf_empty,tf_now,tw_cfg,tw_word,tw_slots,tw_sends,tw_recvs,tw_full,tw_empty,tw_now,tw_log,thr_pc hpc, *]
       done)
    | trace_state

theorem con20_6 {s_lg s_th:Int} {s_pol s_wt:Int} {s_spin s_yld:Int} {s_single:Bool} {s_h s_t s_m:Int} {s_slots:List Slot} {s_sends s_recvs:List Int} {s_fe:Int} {s_fl:List Int} {s_ee:Int} {s_el:List Int} {s_now:Int} {s_thr:List Thread} {s_log:List Entry} {id:Int} (h1:s_slots.length≤100000000) (h2:s_sends.length≤100000000) (h3:s_recvs.length≤100000000) (h4:s_fl.length≤100000000) (h5:s_el.length≤100000000) (h6:s_thr.length≤100000000) (h7:s_log.length≤100000000) (hI:sIs (State.mk (Config.mk s_lg s_th s_pol s_wt s_spin s_yld s_single) (Word.mk s_h s_t s_m) s_slots s_sends s_recvs (Event.mk s_fe s_fl) (Event.mk s_ee s_el) s_now s_thr s_log) id=true) (hpc:(s_thr.getD id.toNat default).pc=6):Con Tryz.prog 20 [.agg [.int .i64 s_lg,.int .i64 s_th,.int .i64 s_pol,.int .i64 s_wt,.int .i64 s_spin,.int .i64 s_yld,.bool s_single,.int .i64 s_h,.int .i64 s_t,.int .i64 s_m,.slv 2 (s_slots.map encS),.slv 1 (s_sends.map encI),.slv 1 (s_recvs.map encI),.int .i64 s_fe,.slv 1 (s_fl.map encI),.int .i64 s_ee,.slv 1 (s_el.map encI),.int .i64 s_now,.slv 11 (s_thr.map encT),.slv 5 (s_log.map encE)],.int .i64 id] (.agg (encZ (sNotify (State.mk (Config.mk s_lg s_th s_pol s_wt s_spin s_yld s_single) (Word.mk s_h s_t s_m) s_slots s_sends s_recvs (Event.mk s_fe s_fl) (Event.mk s_ee s_el) s_now s_thr s_log) id)),[],[]):=by
  have hI':=hI
  simp only [sIs,fabIs,Bool.and_eq_true,decide_eq_true_eq] at hI'
  obtain ⟨⟨⟨⟨hchk,hge⟩,hlt⟩,hruns⟩,hside⟩:=hI'
  have hid:id.toNat<s_thr.length:=by omega
  have hne:s_thr≠[]:=by intro h; subst h; simp at hlt; omega
  refine mcb_of_vc mix x20 (by simp [F20]) fun hw _=>?_
  clear hw
  repeat' with_reducible first|refine gTn_of (fun h=>?_) (fun h=>?_)|refine gT_of (fun h=>?_) (fun h=>?_)|refine caseTn_of (fun h=>?_) (fun h=>?_)|refine caseT_of (fun h=>?_) (fun h=>?_)|refine FN ?_ ?_ ?_ ?_ rfl ?_|refine kv_ifn ?_ ?_|refine kv_if ?_ ?_|refine k_if ?_ ?_|refine I2 mix x62 lf62 ?_ ?_ ?_ ?_ ?_|refine I2 mix x138 lf138 ?_ ?_ ?_ ?_ ?_|refine IA ?_ ?_ ?_|refine L1 ?_ ?_|refine L2 ?_ ?_|refine L3 ?_ ?_ ?_ ?_|refine L4 ?_ ?_|refine L5 ?_ ?_ ?_ ?_ ?_|refine L6 ?_ ?_ ?_ ?_ ?_|refine N1 (con50m ?_ ?_ ?_ ?_ ?_ ?_ ?_ hne) ?_ ?_|refine P0 (con51 ?_ ?_ ?_ ?_ ?_ ?_ ?_) ?_ ?_ ?_|refine I3 mix x68 lf68 ?_ ?_ ?_ ?_ ?_|refine I3 mix x143 lf143 ?_ ?_ ?_ ?_ ?_|refine inr_fin ?_ ?_ ?_ ?_|refine GN 50 ?_ ?_ ?_|refine ACN.of (con50w ?_ ?_ ?_ ?_ ?_ ?_ ?_ ?_) ?_|refine P0 (con149 ?_) ?_ ?_ ?_|refine ACV.of (con149 ?_) ?_ ?_ ?_|refine ACK.of (con149 ?_) ?_ ?_|simp -implicitDefEqProofs only [F20,qA,ld_0,ld_pv,st_0,splice,doEqs,qU,List.reduceReplicate,Nat.reduceAdd,Nat.reduceSub,Nat.reduceLeDiff,Nat.reduceEqDiff,Nat.reduceMul,reduceIte,reduceCtorEq,qI,Nat.reduceLT,Nat.reduceBEq,F62,F138,up_s,Int.toNat_natCast,encT,encX,encV,encW,hpc,hI,Int.reduceToNat,Nat.mul_one,tell_len,wake_len,aa_of,Int.reduceLE,Int.reduceLT,Int.toNat_zero,Int.toNat_one,Int.le_refl,set_set,getD_set_same,F68,F143, *]
  all_goals first
    | omega
    | (constructor <;> omega)
    | exact Wk.refl _
    | exact Nat.le_trans vNotify_len h5
    | (simp only [sIs,Bool.and_eq_true] at hI; with_reducible exact hI.1.1)
    | (refine Wk.of_eq ?_
       have htr:=tries_of hchk hge hlt
       try simp only [decide_eq_true_eq,decide_eq_false_iff_not,Bool.not_eq_true] at *
       unfold sNotify
       try simp only [me] at *
       have hw:=wrap64_tries htr
       clear hchk hI hside hruns htr
       try simp only [*,reduceIte,if_true,if_false,Bool.false_eq_true,and_true,true_and,and_false,false_and,and_self,not_true_eq_false,not_false_eq_true,ne_eq,Int.reduceEq,Int.reduceNe]
       try rw [List.take_of_length_le (by simp [tell_len,wake_len])]
       simp only [encZ,encX,encV,encC,withWord,withSlots,withSends,withFull,withEmpty,rOn,rAt,rEnds,rTell,setPc,setReg,setSeen,put1,setTries,me,getD_set_same,set_set,List.length_set,tf_cfg,tf_word,tf_slots,tf_sends,tf_recvs,tf_full,tf_empty,tf_now,tw_cfg,tw_word,tw_slots,tw_sends,tw_recvs,tw_full,tw_empty,tw_now,tw_log,thr_pc hpc, *]
       done)
    | trace_state

theorem con20_3 {s_lg s_th:Int} {s_pol s_wt:Int} {s_spin s_yld:Int} {s_single:Bool} {s_h s_t s_m:Int} {s_slots:List Slot} {s_sends s_recvs:List Int} {s_fe:Int} {s_fl:List Int} {s_ee:Int} {s_el:List Int} {s_now:Int} {s_thr:List Thread} {s_log:List Entry} {id:Int} (h1:s_slots.length≤100000000) (h2:s_sends.length≤100000000) (h3:s_recvs.length≤100000000) (h4:s_fl.length≤100000000) (h5:s_el.length≤100000000) (h6:s_thr.length≤100000000) (h7:s_log.length≤100000000) (hI:sIs (State.mk (Config.mk s_lg s_th s_pol s_wt s_spin s_yld s_single) (Word.mk s_h s_t s_m) s_slots s_sends s_recvs (Event.mk s_fe s_fl) (Event.mk s_ee s_el) s_now s_thr s_log) id=true) (hpc:(s_thr.getD id.toNat default).pc=3):Con Tryz.prog 20 [.agg [.int .i64 s_lg,.int .i64 s_th,.int .i64 s_pol,.int .i64 s_wt,.int .i64 s_spin,.int .i64 s_yld,.bool s_single,.int .i64 s_h,.int .i64 s_t,.int .i64 s_m,.slv 2 (s_slots.map encS),.slv 1 (s_sends.map encI),.slv 1 (s_recvs.map encI),.int .i64 s_fe,.slv 1 (s_fl.map encI),.int .i64 s_ee,.slv 1 (s_el.map encI),.int .i64 s_now,.slv 11 (s_thr.map encT),.slv 5 (s_log.map encE)],.int .i64 id] (.agg (encZ (sWrite (State.mk (Config.mk s_lg s_th s_pol s_wt s_spin s_yld s_single) (Word.mk s_h s_t s_m) s_slots s_sends s_recvs (Event.mk s_fe s_fl) (Event.mk s_ee s_el) s_now s_thr s_log) id)),[],[]):=by
  have hI':=hI
  simp only [sIs,fabIs,Bool.and_eq_true,decide_eq_true_eq] at hI'
  obtain ⟨⟨⟨⟨hchk,hge⟩,hlt⟩,hruns⟩,hside⟩:=hI'
  have hid:id.toNat<s_thr.length:=by omega
  have hne:s_thr≠[]:=by intro h; subst h; simp at hlt; omega
  refine mcb_of_vc mix x20 (by simp [F20]) fun hw _=>?_
  clear hw
  repeat' with_reducible first|refine gTn_of (fun h=>?_) (fun h=>?_)|refine gT_of (fun h=>?_) (fun h=>?_)|refine caseTn_of (fun h=>?_) (fun h=>?_)|refine caseT_of (fun h=>?_) (fun h=>?_)|refine FN ?_ ?_ ?_ ?_ rfl ?_|refine kv_ifn ?_ ?_|refine kv_if ?_ ?_|refine k_if ?_ ?_|refine I2 mix x59 lf59 ?_ ?_ ?_ ?_ ?_|refine I2 mix x138 lf138 ?_ ?_ ?_ ?_ ?_|refine IA ?_ ?_ ?_|refine L1 ?_ ?_|refine L2 ?_ ?_|refine L3 ?_ ?_ ?_ ?_|refine L4 ?_ ?_|refine L5 ?_ ?_ ?_ ?_ ?_|refine L6 ?_ ?_ ?_ ?_ ?_|refine N1 (con50m ?_ ?_ ?_ ?_ ?_ ?_ ?_ hne) ?_ ?_|refine P0 (con51 ?_ ?_ ?_ ?_ ?_ ?_ ?_) ?_ ?_ ?_|refine I3 mix x68 lf68 ?_ ?_ ?_ ?_ ?_|refine I3 mix x143 lf143 ?_ ?_ ?_ ?_ ?_|refine inr_fin ?_ ?_ ?_ ?_|refine P0 (con145 ?_) ?_ ?_ ?_|refine ACV.of (con145 ?_) ?_ ?_ ?_|refine ACK.of (con145 ?_) ?_ ?_|simp -implicitDefEqProofs only [F20,qA,ld_0,ld_pv,st_0,splice,doEqs,qU,List.reduceReplicate,Nat.reduceAdd,Nat.reduceSub,Nat.reduceLeDiff,Nat.reduceEqDiff,Nat.reduceMul,reduceIte,reduceCtorEq,qI,Nat.reduceLT,Nat.reduceBEq,F59,F138,up_s,Int.toNat_natCast,encT,encX,encV,encW,hpc,hI,Int.reduceToNat,Nat.mul_one,tell_len,wake_len,aa_of,Int.reduceLE,Int.reduceLT,Int.toNat_zero,Int.toNat_one,Int.le_refl,set_set,getD_set_same,F68,F143, *]
  all_goals first
    | omega
    | (constructor <;> omega)
    | exact Wk.refl _
    | (simp only [sIs,Bool.and_eq_true] at hI; with_reducible exact hI.1.1)
    | (refine Wk.of_eq ?_
       have htr:=tries_of hchk hge hlt
       try simp only [decide_eq_true_eq,decide_eq_false_iff_not,Bool.not_eq_true] at *
       unfold sWrite
       try simp only [me] at *
       have hw:=wrap64_tries htr
       clear hchk hI hside hruns htr
       try simp only [*,reduceIte,if_true,if_false,Bool.false_eq_true,and_true,true_and,and_false,false_and,and_self,not_true_eq_false,not_false_eq_true,ne_eq,Int.reduceEq,Int.reduceNe]
       try rw [List.take_of_length_le (by simp [tell_len,wake_len])]
       simp only [encZ,encX,encV,encC,withWord,withSlots,withSends,withFull,withEmpty,rOn,rAt,rEnds,rTell,setPc,setReg,setSeen,put1,setTries,me,getD_set_same,set_set,List.length_set,tf_cfg,tf_word,tf_slots,tf_sends,tf_recvs,tf_full,tf_empty,tf_now,tw_cfg,tw_word,tw_slots,tw_sends,tw_recvs,tw_full,tw_empty,tw_now,tw_log,thr_pc hpc, *]
       done)
    | trace_state

theorem con20_5 {s_lg s_th:Int} {s_pol s_wt:Int} {s_spin s_yld:Int} {s_single:Bool} {s_h s_t s_m:Int} {s_slots:List Slot} {s_sends s_recvs:List Int} {s_fe:Int} {s_fl:List Int} {s_ee:Int} {s_el:List Int} {s_now:Int} {s_thr:List Thread} {s_log:List Entry} {id:Int} (h1:s_slots.length≤100000000) (h2:s_sends.length≤100000000) (h3:s_recvs.length≤100000000) (h4:s_fl.length≤100000000) (h5:s_el.length≤100000000) (h6:s_thr.length≤100000000) (h7:s_log.length≤100000000) (hI:sIs (State.mk (Config.mk s_lg s_th s_pol s_wt s_spin s_yld s_single) (Word.mk s_h s_t s_m) s_slots s_sends s_recvs (Event.mk s_fe s_fl) (Event.mk s_ee s_el) s_now s_thr s_log) id=true) (hpc:(s_thr.getD id.toNat default).pc=5):Con Tryz.prog 20 [.agg [.int .i64 s_lg,.int .i64 s_th,.int .i64 s_pol,.int .i64 s_wt,.int .i64 s_spin,.int .i64 s_yld,.bool s_single,.int .i64 s_h,.int .i64 s_t,.int .i64 s_m,.slv 2 (s_slots.map encS),.slv 1 (s_sends.map encI),.slv 1 (s_recvs.map encI),.int .i64 s_fe,.slv 1 (s_fl.map encI),.int .i64 s_ee,.slv 1 (s_el.map encI),.int .i64 s_now,.slv 11 (s_thr.map encT),.slv 5 (s_log.map encE)],.int .i64 id] (.agg (encZ (sPrepare (State.mk (Config.mk s_lg s_th s_pol s_wt s_spin s_yld s_single) (Word.mk s_h s_t s_m) s_slots s_sends s_recvs (Event.mk s_fe s_fl) (Event.mk s_ee s_el) s_now s_thr s_log) id)),[],[]):=by
  have hI':=hI
  simp only [sIs,fabIs,Bool.and_eq_true,decide_eq_true_eq] at hI'
  obtain ⟨⟨⟨⟨hchk,hge⟩,hlt⟩,hruns⟩,hside⟩:=hI'
  have hid:id.toNat<s_thr.length:=by omega
  have hne:s_thr≠[]:=by intro h; subst h; simp at hlt; omega
  refine mcb_of_vc mix x20 (by simp [F20]) fun hw _=>?_
  clear hw
  repeat' with_reducible first|refine gTn_of (fun h=>?_) (fun h=>?_)|refine gT_of (fun h=>?_) (fun h=>?_)|refine caseTn_of (fun h=>?_) (fun h=>?_)|refine caseT_of (fun h=>?_) (fun h=>?_)|refine FN ?_ ?_ ?_ ?_ rfl ?_|refine kv_ifn ?_ ?_|refine kv_if ?_ ?_|refine k_if ?_ ?_|refine I2 mix x61 lf61 ?_ ?_ ?_ ?_ ?_|refine I2 mix x138 lf138 ?_ ?_ ?_ ?_ ?_|refine IA ?_ ?_ ?_|refine L1 ?_ ?_|refine L2 ?_ ?_|refine L3 ?_ ?_ ?_ ?_|refine L4 ?_ ?_|refine L5 ?_ ?_ ?_ ?_ ?_|refine L6 ?_ ?_ ?_ ?_ ?_|refine N1 (con50m ?_ ?_ ?_ ?_ ?_ ?_ ?_ hne) ?_ ?_|refine P0 (con51 ?_ ?_ ?_ ?_ ?_ ?_ ?_) ?_ ?_ ?_|refine I3 mix x68 lf68 ?_ ?_ ?_ ?_ ?_|refine I3 mix x143 lf143 ?_ ?_ ?_ ?_ ?_|refine inr_fin ?_ ?_ ?_ ?_|refine P0 (con148 ?_) ?_ ?_ ?_|refine ACV.of (con148 ?_) ?_ ?_ ?_|refine ACK.of (con148 ?_) ?_ ?_|simp -implicitDefEqProofs only [F20,qA,ld_0,ld_pv,st_0,splice,doEqs,qU,List.reduceReplicate,Nat.reduceAdd,Nat.reduceSub,Nat.reduceLeDiff,Nat.reduceEqDiff,Nat.reduceMul,reduceIte,reduceCtorEq,qI,Nat.reduceLT,Nat.reduceBEq,F61,F138,up_s,Int.toNat_natCast,encT,encX,encV,encW,hpc,hI,Int.reduceToNat,Nat.mul_one,tell_len,wake_len,aa_of,Int.reduceLE,Int.reduceLT,Int.toNat_zero,Int.toNat_one,Int.le_refl,set_set,getD_set_same,F68,F143, *]
  all_goals first
    | omega
    | (constructor <;> omega)
    | exact Wk.refl _
    | (simp only [sIs,Bool.and_eq_true] at hI; with_reducible exact hI.1.1)
    | (refine Wk.of_eq ?_
       have htr:=tries_of hchk hge hlt
       try simp only [decide_eq_true_eq,decide_eq_false_iff_not,Bool.not_eq_true] at *
       unfold sPrepare
       try simp only [me] at *
       have hw:=wrap64_tries htr
       clear hchk hI hside hruns htr
       try simp only [*,reduceIte,if_true,if_false,Bool.false_eq_true,and_true,true_and,and_false,false_and,and_self,not_true_eq_false,not_false_eq_true,ne_eq,Int.reduceEq,Int.reduceNe]
       try rw [List.take_of_length_le (by simp [tell_len,wake_len])]
       simp only [encZ,encX,encV,encC,withWord,withSlots,withSends,withFull,withEmpty,rOn,rAt,rEnds,rTell,setPc,setReg,setSeen,put1,setTries,me,getD_set_same,set_set,List.length_set,tf_cfg,tf_word,tf_slots,tf_sends,tf_recvs,tf_full,tf_empty,tf_now,tw_cfg,tw_word,tw_slots,tw_sends,tw_recvs,tw_full,tw_empty,tw_now,tw_log,thr_pc hpc, *]
       done)
    | trace_state

end Go.Sak
