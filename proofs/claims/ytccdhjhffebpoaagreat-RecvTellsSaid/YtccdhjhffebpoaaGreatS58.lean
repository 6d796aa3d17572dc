/- Part S58 of the proofs about the program: K60, K61. Conditions: none. -/
import Derived.Test.YtccdhjhffebpoaaGreatS52
import Derived.Test.YtccdhjhffebpoaaGreatS53
import Derived.Test.YtccdhjhffebpoaaGreatS55
import Derived.Test.YtccdhjhffebpoaaGreatS56
import Derived.Test.YtccdhjhffebpoaaGreatS57
import Derived.Test.YtccdhjhffebpoaaGreatS30
import Derived.Test.YtccdhjhffebpoaaGreatS04
import Derived.Test.YtccdhjhffebpoaaGreatProg
import Derived.KernelRfl
import Derived.Test.YtccdhjhffebpoaaGreatS47
namespace Go.Sak
open Go Go.RowKit Go.Proofs
set_option linter.unusedVariables false
set_option linter.unusedSimpArgs false
set_option maxRecDepth 10000
set_option maxHeartbeats 8000000
theorem con27_n {s_lg s_th:Int} {s_pol s_wt:Int} {s_spin s_yld:Int} {s_single:Bool} {s_h s_t s_m:Int} {s_slots:List Slot} {s_sends s_recvs:List Int} {s_fe:Int} {s_fl:List Int} {s_ee:Int} {s_el:List Int} {s_now:Int} {s_thr:List Thread} {s_log:List Entry} {id:Int} (h1:s_slots.length≤100000000) (h2:s_sends.length≤100000000) (h3:s_recvs.length≤100000000) (h4:s_fl.length≤100000000) (h5:s_el.length≤100000000) (h6:s_thr.length≤100000000) (h7:s_log.length≤100000000) (hI:gIs (State.mk (Config.mk s_lg s_th s_pol s_wt s_spin s_yld s_single) (Word.mk s_h s_t s_m) s_slots s_sends s_recvs (Event.mk s_fe s_fl) (Event.mk s_ee s_el) s_now s_thr s_log) id=false):Con Tryz.prog 27 [.agg [.int .i64 s_lg,.int .i64 s_th,.int .i64 s_pol,.int .i64 s_wt,.int .i64 s_spin,.int .i64 s_yld,.bool s_single,.int .i64 s_h,.int .i64 s_t,.int .i64 s_m,.slv 2 (s_slots.map encS),.slv 1 (s_sends.map encI),.slv 1 (s_recvs.map encI),.int .i64 s_fe,.slv 1 (s_fl.map encI),.int .i64 s_ee,.slv 1 (s_el.map encI),.int .i64 s_now,.slv 11 (s_thr.map encT),.slv 5 (s_log.map encE)],.int .i64 id] (.agg (encZ (State.mk (Config.mk s_lg s_th s_pol s_wt s_spin s_yld s_single) (Word.mk s_h s_t s_m) s_slots s_sends s_recvs (Event.mk s_fe s_fl) (Event.mk s_ee s_el) s_now s_thr s_log)),[],[]):=by
  refine mcb_of_vc mix x27 (by simp [F27]) fun hw _=>?_
  clear hw
  repeat' with_reducible first|refine gTn_of (fun h=>?_) (fun h=>?_)|refine gT_of (fun h=>?_) (fun h=>?_)|refine caseTn_of (fun h=>?_) (fun h=>?_)|refine caseT_of (fun h=>?_) (fun h=>?_)|refine FN ?_ ?_ ?_ ?_ rfl ?_|refine kv_ifn ?_ ?_|refine kv_if ?_ ?_|refine k_if ?_ ?_|refine IA ?_ ?_ ?_|refine L1 ?_ ?_|refine L2 ?_ ?_|refine L3 ?_ ?_ ?_ ?_|refine L4 ?_ ?_|refine L5 ?_ ?_ ?_ ?_ ?_|refine L6 ?_ ?_ ?_ ?_ ?_|refine P0 (con50 ?_ ?_ ?_ ?_ ?_ ?_ ?_) ?_ ?_ ?_|refine P0 (con86 ?_ ?_ ?_ ?_ ?_ ?_ ?_) ?_ ?_ ?_|simp -implicitDefEqProofs only [F27,qA,ld_0,ld_pv,st_0,splice,doEqs,qU,List.reduceReplicate,Nat.reduceAdd,Nat.reduceSub,Nat.reduceLeDiff,Nat.reduceEqDiff,Nat.reduceMul,reduceIte,reduceCtorEq,qI,Nat.reduceLT,Nat.reduceBEq,up_s,Int.toNat_natCast,encT,encZ,encX,hI,wake_m1, *]
  all_goals first
    | omega
    | exact Wk.refl _
    | trace_state

theorem con27 {s_lg s_th:Int} {s_pol s_wt:Int} {s_spin s_yld:Int} {s_single:Bool} {s_h s_t s_m:Int} {s_slots:List Slot} {s_sends s_recvs:List Int} {s_fe:Int} {s_fl:List Int} {s_ee:Int} {s_el:List Int} {s_now:Int} {s_thr:List Thread} {s_log:List Entry} {id:Int} (h1:s_slots.length≤100000000) (h2:s_sends.length≤100000000) (h3:s_recvs.length≤100000000) (h4:s_fl.length≤100000000) (h5:s_el.length≤100000000) (h6:s_thr.length≤100000000) (h7:s_log.length≤100000000):Con Tryz.prog 27 [.agg [.int .i64 s_lg,.int .i64 s_th,.int .i64 s_pol,.int .i64 s_wt,.int .i64 s_spin,.int .i64 s_yld,.bool s_single,.int .i64 s_h,.int .i64 s_t,.int .i64 s_m,.slv 2 (s_slots.map encS),.slv 1 (s_sends.map encI),.slv 1 (s_recvs.map encI),.int .i64 s_fe,.slv 1 (s_fl.map encI),.int .i64 s_ee,.slv 1 (s_el.map encI),.int .i64 s_now,.slv 11 (s_thr.map encT),.slv 5 (s_log.map encE)],.int .i64 id] (.agg (encZ (gStep (State.mk (Config.mk s_lg s_th s_pol s_wt s_spin s_yld s_single) (Word.mk s_h s_t s_m) s_slots s_sends s_recvs (Event.mk s_fe s_fl) (Event.mk s_ee s_el) s_now s_thr s_log) id)),[],[]):=by
  by_cases hI:gIs (State.mk (Config.mk s_lg s_th s_pol s_wt s_spin s_yld s_single) (Word.mk s_h s_t s_m) s_slots s_sends s_recvs (Event.mk s_fe s_fl) (Event.mk s_ee s_el) s_now s_thr s_log) id=true
  · have hp:=pc_of (s:=(State.mk (Config.mk s_lg s_th s_pol s_wt s_spin s_yld s_single) (Word.mk s_h s_t s_m) s_slots s_sends s_recvs (Event.mk s_fe s_fl) (Event.mk s_ee s_el) s_now s_thr s_log)) (id:=id) (gIs_fab hI)
    simp only [me] at hp
    have hs:gStep (State.mk (Config.mk s_lg s_th s_pol s_wt s_spin s_yld s_single) (Word.mk s_h s_t s_m) s_slots s_sends s_recvs (Event.mk s_fe s_fl) (Event.mk s_ee s_el) s_now s_thr s_log) id=(match (s_thr.getD id.toNat default).pc.toNat with | 0=>gEnter (State.mk (Config.mk s_lg s_th s_pol s_wt s_spin s_yld s_single) (Word.mk s_h s_t s_m) s_slots s_sends s_recvs (Event.mk s_fe s_fl) (Event.mk s_ee s_el) s_now s_thr s_log) id | 1=>gFirst (State.mk (Config.mk s_lg s_th s_pol s_wt s_spin s_yld s_single) (Word.mk s_h s_t s_m) s_slots s_sends s_recvs (Event.mk s_fe s_fl) (Event.mk s_ee s_el) s_now s_thr s_log) id | 2=>gLook (State.mk (Config.mk s_lg s_th s_pol s_wt s_spin s_yld s_single) (Word.mk s_h s_t s_m) s_slots s_sends s_recvs (Event.mk s_fe s_fl) (Event.mk s_ee s_el) s_now s_thr s_log) id | 3=>gTake (State.mk (Config.mk s_lg s_th s_pol s_wt s_spin s_yld s_single) (Word.mk s_h s_t s_m) s_slots s_sends s_recvs (Event.mk s_fe s_fl) (Event.mk s_ee s_el) s_now s_thr s_log) id | 4=>gRead (State.mk (Config.mk s_lg s_th s_pol s_wt s_spin s_yld s_single) (Word.mk s_h s_t s_m) s_slots s_sends s_recvs (Event.mk s_fe s_fl) (Event.mk s_ee s_el) s_now s_thr s_log) id | 5=>gPrepare (State.mk (Config.mk s_lg s_th s_pol s_wt s_spin s_yld s_single) (Word.mk s_h s_t s_m) s_slots s_sends s_recvs (Event.mk s_fe s_fl) (Event.mk s_ee s_el) s_now s_thr s_log) id | 6=>gNotify (State.mk (Config.mk s_lg s_th s_pol s_wt s_spin s_yld s_single) (Word.mk s_h s_t s_m) s_slots s_sends s_recvs (Event.mk s_fe s_fl) (Event.mk s_ee s_el) s_now s_thr s_log) id | 7=>gAgain (State.mk (Config.mk s_lg s_th s_pol s_wt s_spin s_yld s_single) (Word.mk s_h s_t s_m) s_slots s_sends s_recvs (Event.mk s_fe s_fl) (Event.mk s_ee s_el) s_now s_thr s_log) id | 8=>gCommit (State.mk (Config.mk s_lg s_th s_pol s_wt s_spin s_yld s_single) (Word.mk s_h s_t s_m) s_slots s_sends s_recvs (Event.mk s_fe s_fl) (Event.mk s_ee s_el) s_now s_thr s_log) id | _=>gLeave (State.mk (Config.mk s_lg s_th s_pol s_wt s_spin s_yld s_single) (Word.mk s_h s_t s_m) s_slots s_sends s_recvs (Event.mk s_fe s_fl) (Event.mk s_ee s_el) s_now s_thr s_log) id):=by
      unfold gStep
      rw [if_neg (by simp [hI])]
      rfl
    rw [hs]
    have hc:(s_thr.getD id.toNat default).pc=0∨(s_thr.getD id.toNat default).pc=1∨(s_thr.getD id.toNat default).pc=2∨(s_thr.getD id.toNat default).pc=3∨(s_thr.getD id.toNat default).pc=4∨(s_thr.getD id.toNat default).pc=5∨(s_thr.getD id.toNat default).pc=6∨(s_thr.getD id.toNat default).pc=7∨(s_thr.getD id.toNat default).pc=8∨(s_thr.getD id.toNat default).pc=9∨(s_thr.getD id.toNat default).pc=10∨(s_thr.getD id.toNat default).pc=11:=by omega
    rcases hc with hc | hc | hc | hc | hc | hc | hc | hc | hc | hc | hc | hc
    · rw [hc]; exact con27_0 h1 h2 h3 h4 h5 h6 h7 hI hc
    · rw [hc]; exact con27_1 h1 h2 h3 h4 h5 h6 h7 hI hc
    · rw [hc]; exact con27_2 h1 h2 h3 h4 h5 h6 h7 hI hc
    · rw [hc]; exact con27_3 h1 h2 h3 h4 h5 h6 h7 hI hc
    · rw [hc]; exact con27_4 h1 h2 h3 h4 h5 h6 h7 hI hc
    · rw [hc]; exact con27_5 h1 h2 h3 h4 h5 h6 h7 hI hc
    · rw [hc]; exact con27_6 h1 h2 h3 h4 h5 h6 h7 hI hc
    · rw [hc]; exact con27_7 h1 h2 h3 h4 h5 h6 h7 hI hc
    · rw [hc]; exact con27_8 h1 h2 h3 h4 h5 h6 h7 hI hc
    · rw [hc]; exact con27_9 h1 h2 h3 h4 h5 h6 h7 hI hc
    · rw [hc]; exact con27_10 h1 h2 h3 h4 h5 h6 h7 hI hc
    · rw [hc]; exact con27_11 h1 h2 h3 h4 h5 h6 h7 hI hc
  · have hs:gStep (State.mk (Config.mk s_lg s_th s_pol s_wt s_spin s_yld s_single) (Word.mk s_h s_t s_m) s_slots s_sends s_recvs (Event.mk s_fe s_fl) (Event.mk s_ee s_el) s_now s_thr s_log) id=(State.mk (Config.mk s_lg s_th s_pol s_wt s_spin s_yld s_single) (Word.mk s_h s_t s_m) s_slots s_sends s_recvs (Event.mk s_fe s_fl) (Event.mk s_ee s_el) s_now s_thr s_log):=by unfold gStep; rw [if_pos (by simp [hI])]
    rw [hs]
    exact con27_n h1 h2 h3 h4 h5 h6 h7 (by simpa using hI)

theorem con27s {s:State} {id:Int} (h:Bd s 100000000):Con Tryz.prog 27 [.agg (encZ s),.int .i64 id] (.agg (encZ (gStep s id)),[],[]):=by
  obtain ⟨h1,h2,h3,h4,h5,h6,h7⟩:=h.all
  exact con27 h1 h2 h3 h4 h5 h6 h7
theorem con86s {s:State} {id:Int} (h:Bd s 100000000):Con Tryz.prog 86 [.agg (encZ s),.int .i64 id] (.bool (gIs s id),[],[]):=by
  obtain ⟨h1,h2,h3,h4,h5,h6,h7⟩:=h.all
  exact con86 h1 h2 h3 h4 h5 h6 h7
theorem bd_gStep {s:State} {k:Nat} {id:Int} (h:Bd s k):Bd (gStep s id) (k+1):=by
  have h':=h.mono (Nat.le_succ k)
  have hb:=h
  unfold Bd at hb
  obtain ⟨b1,b2,b3,b4,b5,b6,b7⟩:=hb
  unfold gStep
  split
  · exact h'
  · split
    · exact bd_rAt (bd_recvs h' (by have:=@lEnter_len s.recvs id; omega))
    · unfold gFirst; split
      · exact bd_rAt h'
      · split
        · exact bd_rEnds h
        · exact bd_rOn h'
    · unfold gLook; split
      · exact bd_rAt h'
      · split
        · unfold gVain; split
          · exact bd_rEnds h
          · split
            · exact bd_rEnds h
            · split
              · exact bd_rAt h'
              · exact bd_rOn h'
        · exact bd_rEnds h
    · unfold gTake; simp only []; split
      · exact bd_rTell (bd_put1 (bd_word h))
      · split
        · exact bd_rAt h'
        · exact bd_rEnds h
    · exact bd_rAt (bd_slots (bd_put1 h') (by rw [slotRelease_len]; omega))
    · exact bd_rAt (bd_put1 h')
    · unfold gNotify; simp only []
      have he:Bd (withFull s (vNotify s.full).1) (k+1):=bd_full h' (by have:=@vNotify_len s.full; omega)
      split
      · exact bd_rAt (bd_wake he)
      · exact bd_rAt he
    · unfold gAgain; split <;> exact bd_rAt h'
    · unfold gCommit; split
      · exact bd_rAt h'
      · simp only []
        have he:Bd (withEmpty s (vCommit s.empty (me s id).seen id).1) (k+1):=bd_empty h' (by have:=@vCommit_len s.empty (me s id).seen id; omega)
        split
        · exact bd_put1 he
        · exact bd_rAt he
    · exact bd_put1 (bd_recvs h' (by have:=@lLeave_len s.recvs id; omega))
theorem bd_nRun {is:State→Bool} {st:State→State} (hst:∀ s k,Bd s k→Bd (st s) (k+1)):∀ (n:Nat) (s:State) (k:Nat),Bd s k→Bd (nRun is st n s).1 (k+n)
  | 0,s,k,h=>h
  | n+1,s,k,h=>by
    simp only [nRun]
    split
    · have:=bd_nRun (is:=is) hst n (st s) (k+1) (hst s k h); exact this.mono (by omega)
    · exact h.mono (by omega)
theorem bd_gRun {s:State} {id:Int} {n k:Nat} (h:Bd s k):Bd (gRun s id n).1 (k+n):=bd_nRun (fun _ _ h=>bd_gStep h) n s k h
theorem bd_gSteps {s:State} {id n:Int} {k:Nat} (h:Bd s k):Bd (gSteps s id n).1 (k+1000):=(bd_gRun (n:=(min (max n 0) 1000).toNat) h).mono (by omega)
def F25:AFn:=⟨32,(.seq (.reg [o1 3 (.box 33 0),o1 6 (.alloc 33 [(.int .i64 0),(.int .i64 0),(.int .i64 0),(.int .i64 0),(.int .i64 0),(.int .i64 0),(.bool false),(.int .i64 0),(.int .i64 0),(.int .i64 0),.slnil,.slnil,.slnil,(.int .i64 0),.slnil,(.int .i64 0),.slnil,(.int .i64 0),.slnil,.slnil]),o1 7 (.mv (ci 0))]) (.seq (.reg [o1 10 (.ld 20 true 3),o1 11 (.call 50 [10,(ci (-1))]),o1 8 (.alloc 33 [(.int .i64 0),(.int .i64 0),(.int .i64 0),(.int .i64 0),(.int .i64 0),(.int .i64 0),(.bool false),(.int .i64 0),(.int .i64 0),(.int .i64 0),.slnil,.slnil,.slnil,(.int .i64 0),.slnil,(.int .i64 0),.slnil,(.int .i64 0),.slnil,.slnil]),o2 (.st 20 8 11)]) (.seq (.seq (.reg [o1 12 (.mv 2),o1 13 (.mx 12 (ci 0)),o1 14 (.mn 13 (ci 1000)),o1 15 (.mv (ci 0))]) (.block 0 (.loop (.seq (.reg [o1 16 (.bin .lss 15 14)]) (.seq (.cond 16 .skip (.exit 0)) (.seq (.block 1 (.seq (.reg [o1 17 (.mv 15),o1 9 (.mv 17)]) (.seq (.seq (.reg [o1 18 (.ld 20 true 8),o1 19 (.mv 1),o1 20 (.call 86 [18,19]),o1 21 (.not 20)]) (.cond 21 (.seq (.reg [o1 22 (.ld 20 true 8),o1 23 (.mv 9),o2 (.st 20 6 22),o1 7 (.mv 23)]) .ret) .skip)) (.reg [o1 24 (.ld 20 true 8),o1 25 (.mv 1),o1 26 (.call 27 [24,25]),o2 (.st 20 8 26)])))) (.reg [o1 27 (.bin .add 15 (ci 1)),o1 15 (.mv 27)]))))))) (.seq (.reg [o1 28 (.ld 20 true 8),o1 29 (.mv 2),o1 30 (.mx 29 (ci 0)),o1 31 (.mn 30 (ci 1000)),o2 (.st 20 6 28),o1 7 (.mv 31)]) .ret)))),[(6,some (20,true)),(7,none)]⟩
theorem x25:xf Tryz.prog 25=some F25:=by kernel_rfl
theorem nrun_next {is:State→Bool} {st:State→State} {s:State} {N k:Nat} (h:is s=true) (hk:k<N):nRun is st (N - k) s=((nRun is st (N - (k+1)) (st s)).1,(nRun is st (N - (k+1)) (st s)).2+1):=by
  rw [show N - k=(N - (k+1))+1 from by omega]
  exact nRun_s h
theorem nrun_end {is:State→Bool} {st:State→State} {s:State} {N k:Nat} (h:N≤k∨is s=false):nRun is st (N - k) s=(s,0):=by
  rcases h with h | h
  · rw [show N - k=0 from by omega]; rfl
  · exact nRun_0 h
theorem g_wk {s st:State} {id m:Int} {k N:Nat} (hN:N=(min (max m 0) 1000).toNat) (h:gRun s id N=((gRun st id (N - k)).1,(gRun st id (N - k)).2+k)) (he:N≤k∨gIs st id=false) {x:Int} (hx:x=k):Wk (.tup [.agg (encZ st),.int .i64 x]) (.tup [.agg (encZ (gSteps s id m).1),.int .i64 (gSteps s id m).2]):=by
  have e:gRun st id (N - k)=(st,0):=nrun_end he
  rw [e] at h
  unfold gSteps
  rw [← hN,h,hx]
  simp only [Nat.zero_add]
  exact Wk.refl _
theorem con25 {s:State} {id m:Int} (h:Bd s 10000000):Con Tryz.prog 25 [.agg (encZ s),.int .i64 id,.int .i64 m] (.tup [.agg (encZ (gSteps s id m).1),.int .i64 (gSteps s id m).2],[],[]):=by
  have hs:=h.mono (n:=100000000) (by omega)
  obtain ⟨N,hNe⟩:∃ N:Nat,(min (max m 0) 1000).toNat=N:=⟨_,rfl⟩
  have hN:(if 1000<(if m<0 then 0 else m) then (1000:Int) else (if m<0 then 0 else m))=(N:Int):=by split <;> (split at * <;> omega)
  have hN':N≤1000:=by omega
  refine mcb_of_vc mix x25 (by simp [F25]) fun hw _=>?_
  clear hw
  repeat' with_reducible first|refine gTn_of (fun h=>?_) (fun h=>?_)|refine gT_of (fun h=>?_) (fun h=>?_)|refine caseTn_of (fun h=>?_) (fun h=>?_)|refine caseT_of (fun h=>?_) (fun h=>?_)|refine FN ?_ ?_ ?_ ?_ rfl ?_|refine kv_ifn ?_ ?_|refine kv_if ?_ ?_|refine k_if ?_ ?_|refine IA ?_ ?_ ?_|refine L1 ?_ ?_|refine L2 ?_ ?_|refine L3 ?_ ?_ ?_ ?_|refine L4 ?_ ?_|refine L5 ?_ ?_ ?_ ?_ ?_|refine L6 ?_ ?_ ?_ ?_ ?_|refine AC.p0 (con50s ?_) ?_ (by simp -implicitDefEqProofs only [qU,pure_encZ]; done) ?_ ?_|refine AC.p0 (con86s ?_) ?_ (by simp -implicitDefEqProofs only [qU,pure_encZ]; done) ?_ ?_|refine AC.p0 (con27s ?_) ?_ (by simp -implicitDefEqProofs only [qU,pure_encZ]; done) ?_ ?_|refine rm_of [] [(2,2),(3,3)] (k+1,gStep st id) ?_ ?_ ?_ ?_ ?_ ?_|simp -implicitDefEqProofs only [F25,qA,ld_0,ld_pv,st_0,splice,doEqs,qU,List.reduceReplicate,Nat.reduceAdd,Nat.reduceSub,Nat.reduceLeDiff,Nat.reduceEqDiff,Nat.reduceMul,reduceIte,reduceCtorEq,qI,Nat.reduceLT,Nat.reduceBEq,up_s,Int.toNat_natCast,encT,qZ,nl_s,nl_0,lm_normal,lm_exit,lm_ret,Int.natCast_zero, *]
  all_goals first
    | refine lm_of 5 (fun s:Nat×State=>nl 1 (some (.int .i64 id) :: some (.int .i64 m) :: nl 3 (some (.ptr 2 0 0) :: nl 1 (some (.ptr 3 0 0) :: nl 5 (some (.int .i64 N) :: some (.int .i64 s.1) :: nl 16 []))))) (fun s=>[(2,.rows 33 20 [[(.int .i64 0),(.int .i64 0),(.int .i64 0),(.int .i64 0),(.int .i64 0),(.int .i64 0),(.bool false),(.int .i64 0),(.int .i64 0),(.int .i64 0),.slnil,.slnil,.slnil,(.int .i64 0),.slnil,(.int .i64 0),.slnil,(.int .i64 0),.slnil,.slnil]]),(3,.rows 33 20 [encZ s.2])]) (fun t=>t.1≤N∧gRun s id N=((gRun t.2 id (N - t.1)).1,(gRun t.2 id (N - t.1)).2+t.1)∧Bd t.2 (10000000+t.1)) (fun t=>N - t.1) [] [(17,2),(81,3)] (0,s) (by omega) ?_ ?_ ?_ ?_ ?_ ?_
    | omega
    | exact hs
  rotate_right
  · rintro ⟨k,st⟩ ⟨hJ1,hJ2,hJ3⟩
    simp only [] at hJ1 hJ2 hJ3
    have hb:=hJ3.mono (n:=100000000) (by omega)
    simp only [all_some,all_none,all_nil,nl_s,nl_0]
    intros
    repeat' with_reducible first|refine gTn_of (fun h=>?_) (fun h=>?_)|refine gT_of (fun h=>?_) (fun h=>?_)|refine caseTn_of (fun h=>?_) (fun h=>?_)|refine caseT_of (fun h=>?_) (fun h=>?_)|refine FN ?_ ?_ ?_ ?_ rfl ?_|refine kv_ifn ?_ ?_|refine kv_if ?_ ?_|refine k_if ?_ ?_|refine IA ?_ ?_ ?_|refine L1 ?_ ?_|refine L2 ?_ ?_|refine L3 ?_ ?_ ?_ ?_|refine L4 ?_ ?_|refine L5 ?_ ?_ ?_ ?_ ?_|refine L6 ?_ ?_ ?_ ?_ ?_|refine AC.p0 (con50s ?_) ?_ (by simp -implicitDefEqProofs only [qU,pure_encZ]; done) ?_ ?_|refine AC.p0 (con86s ?_) ?_ (by simp -implicitDefEqProofs only [qU,pure_encZ]; done) ?_ ?_|refine AC.p0 (con27s ?_) ?_ (by simp -implicitDefEqProofs only [qU,pure_encZ]; done) ?_ ?_|refine rm_of [] [(2,2),(3,3)] (k+1,gStep st id) ?_ ?_ ?_ ?_ ?_ ?_|simp -implicitDefEqProofs only [F25,qA,ld_0,ld_pv,st_0,splice,doEqs,qU,List.reduceReplicate,Nat.reduceAdd,Nat.reduceSub,Nat.reduceLeDiff,Nat.reduceEqDiff,Nat.reduceMul,reduceIte,reduceCtorEq,qI,Nat.reduceLT,Nat.reduceBEq,up_s,Int.toNat_natCast,encT,qZ,nl_s,nl_0,lm_normal,lm_exit,lm_ret,Int.natCast_zero, *]
    all_goals first
      | exact hb
      | exact g_wk hNe.symm hJ2 (.inr (by assumption)) rfl
      | exact g_wk hNe.symm hJ2 (.inl (by have hh:=of_decide_eq_false (by assumption:decide ((k:Int)<(N:Int))=false); omega)) (by have hh:=of_decide_eq_false (by assumption:decide ((k:Int)<(N:Int))=false); omega)
      | (have hk0:=of_decide_eq_true (by assumption:decide ((k:Int)<(N:Int))=true)
         have hk:k<N:=by omega
         first
         | omega
         | (refine ⟨hk,?_,(bd_gStep hJ3).mono (by omega)⟩
            have e:gRun st id (N - k)=((gRun (gStep st id) id (N - (k+1))).1,(gRun (gStep st id) id (N - (k+1))).2+1):=nrun_next (is:=fun s=>gIs s id) (by assumption) hk
            rw [e]
            exact ⟨rfl,by simp only []; omega⟩)
         | exact ⟨trivial,by rw [wrap64 (by omega) (by omega)]; omega⟩
         | (rw [wrap64 (by omega) (by omega)]; omega))
      | trace_state
  all_goals first
    | rfl
    | (simp -implicitDefEqProofs only [qA,ld_0,ld_pv,st_0,splice,doEqs,qU,List.reduceReplicate,Nat.reduceAdd,Nat.reduceSub,Nat.reduceLeDiff,Nat.reduceEqDiff,Nat.reduceMul,reduceIte,reduceCtorEq,qI,Nat.reduceLT,Nat.reduceBEq,qZ,nl_s,nl_0,hN]; first | done | (simp; done))
    | exact ⟨Nat.zero_le _,rfl,h⟩
    | trace_state

end Go.Sak
