/- Part S30 of the proofs about the program: K29, KX, K30. Conditions: none. -/
import Derived.Test.YtccdhjhffebpoaaGreatS23
import Derived.Test.YtccdhjhffebpoaaGreatS24
import Derived.Test.YtccdhjhffebpoaaGreatS26
import Derived.Test.YtccdhjhffebpoaaGreatS27
import Derived.Test.YtccdhjhffebpoaaGreatS28
import Derived.Test.YtccdhjhffebpoaaGreatS29
import Derived.Test.YtccdhjhffebpoaaGreatS04
import Derived.Test.YtccdhjhffebpoaaGreatProg
import Derived.KernelRfl
import Derived.Test.YtccdhjhffebpoaaGreatS22
namespace Go.Sak
open Go Go.RowKit Go.Proofs
set_option linter.unusedVariables false
set_option linter.unusedSimpArgs false
set_option maxRecDepth 10000
set_option maxHeartbeats 8000000
theorem wake_m1 {s:State}:fabWake s (-1)=s:=if_neg (by simp [fabIs])
theorem pc_of {s:State} {id:Int} (hc:fabIs s id=true):0≤(me s id).pc∧(me s id).pc≤11:=by
  simp only [fabIs,Bool.and_eq_true,decide_eq_true_eq] at hc
  obtain ⟨⟨hc,h0⟩,h1⟩:=hc
  have ha:s.threads.any (fun t=>!tCheck t)=false:=by
    simp only [fabCheck,Bool.and_eq_true,Bool.not_eq_true'] at hc
    exact hc.2
  have hm:me s id∈s.threads:=getD_mem (by omega)
  have ht:tCheck (me s id)=true:=by
    have:=List.any_eq_false.1 ha _ hm
    simpa using this
  simp only [tCheck,tPlace,within,Bool.and_eq_true,decide_eq_true_eq] at ht
  omega
theorem con20_n {s_lg s_th:Int} {s_pol s_wt:Int} {s_spin s_yld:Int} {s_single:Bool} {s_h s_t s_m:Int} {s_slots:List Slot} {s_sends s_recvs:List Int} {s_fe:Int} {s_fl:List Int} {s_ee:Int} {s_el:List Int} {s_now:Int} {s_thr:List Thread} {s_log:List Entry} {id:Int} (h1:s_slots.length≤100000000) (h2:s_sends.length≤100000000) (h3:s_recvs.length≤100000000) (h4:s_fl.length≤100000000) (h5:s_el.length≤100000000) (h6:s_thr.length≤100000000) (h7:s_log.length≤100000000) (hI:sIs (State.mk (Config.mk s_lg s_th s_pol s_wt s_spin s_yld s_single) (Word.mk s_h s_t s_m) s_slots s_sends s_recvs (Event.mk s_fe s_fl) (Event.mk s_ee s_el) s_now s_thr s_log) id=false):Con Tryz.prog 20 [.agg [.int .i64 s_lg,.int .i64 s_th,.int .i64 s_pol,.int .i64 s_wt,.int .i64 s_spin,.int .i64 s_yld,.bool s_single,.int .i64 s_h,.int .i64 s_t,.int .i64 s_m,.slv 2 (s_slots.map encS),.slv 1 (s_sends.map encI),.slv 1 (s_recvs.map encI),.int .i64 s_fe,.slv 1 (s_fl.map encI),.int .i64 s_ee,.slv 1 (s_el.map encI),.int .i64 s_now,.slv 11 (s_thr.map encT),.slv 5 (s_log.map encE)],.int .i64 id] (.agg (encZ (State.mk (Config.mk s_lg s_th s_pol s_wt s_spin s_yld s_single) (Word.mk s_h s_t s_m) s_slots s_sends s_recvs (Event.mk s_fe s_fl) (Event.mk s_ee s_el) s_now s_thr s_log)),[],[]):=by
  refine mcb_of_vc mix x20 (by simp [F20]) fun hw _=>?_
  clear hw
  repeat' with_reducible first|refine gTn_of (fun h=>?_) (fun h=>?_)|refine gT_of (fun h=>?_) (fun h=>?_)|refine caseTn_of (fun h=>?_) (fun h=>?_)|refine caseT_of (fun h=>?_) (fun h=>?_)|refine FN ?_ ?_ ?_ ?_ rfl ?_|refine kv_ifn ?_ ?_|refine kv_if ?_ ?_|refine k_if ?_ ?_|refine IA ?_ ?_ ?_|refine L1 ?_ ?_|refine L2 ?_ ?_|refine L3 ?_ ?_ ?_ ?_|refine L4 ?_ ?_|refine L5 ?_ ?_ ?_ ?_ ?_|refine L6 ?_ ?_ ?_ ?_ ?_|refine P0 (con50 ?_ ?_ ?_ ?_ ?_ ?_ ?_) ?_ ?_ ?_|refine P0 (con51 ?_ ?_ ?_ ?_ ?_ ?_ ?_) ?_ ?_ ?_|simp -implicitDefEqProofs only [F20,qA,ld_0,ld_pv,st_0,splice,doEqs,qU,List.reduceReplicate,Nat.reduceAdd,Nat.reduceSub,Nat.reduceLeDiff,Nat.reduceEqDiff,Nat.reduceMul,reduceIte,reduceCtorEq,qI,Nat.reduceLT,Nat.reduceBEq,up_s,Int.toNat_natCast,encT,encZ,encX,hI,wake_m1, *]
  all_goals first
    | omega
    | exact Wk.refl _
    | trace_state

theorem con20 {s_lg s_th:Int} {s_pol s_wt:Int} {s_spin s_yld:Int} {s_single:Bool} {s_h s_t s_m:Int} {s_slots:List Slot} {s_sends s_recvs:List Int} {s_fe:Int} {s_fl:List Int} {s_ee:Int} {s_el:List Int} {s_now:Int} {s_thr:List Thread} {s_log:List Entry} {id:Int} (h1:s_slots.length≤100000000) (h2:s_sends.length≤100000000) (h3:s_recvs.length≤100000000) (h4:s_fl.length≤100000000) (h5:s_el.length≤100000000) (h6:s_thr.length≤100000000) (h7:s_log.length≤100000000):Con Tryz.prog 20 [.agg [.int .i64 s_lg,.int .i64 s_th,.int .i64 s_pol,.int .i64 s_wt,.int .i64 s_spin,.int .i64 s_yld,.bool s_single,.int .i64 s_h,.int .i64 s_t,.int .i64 s_m,.slv 2 (s_slots.map encS),.slv 1 (s_sends.map encI),.slv 1 (s_recvs.map encI),.int .i64 s_fe,.slv 1 (s_fl.map encI),.int .i64 s_ee,.slv 1 (s_el.map encI),.int .i64 s_now,.slv 11 (s_thr.map encT),.slv 5 (s_log.map encE)],.int .i64 id] (.agg (encZ (sStep (State.mk (Config.mk s_lg s_th s_pol s_wt s_spin s_yld s_single) (Word.mk s_h s_t s_m) s_slots s_sends s_recvs (Event.mk s_fe s_fl) (Event.mk s_ee s_el) s_now s_thr s_log) id)),[],[]):=by
  by_cases hI:sIs (State.mk (Config.mk s_lg s_th s_pol s_wt s_spin s_yld s_single) (Word.mk s_h s_t s_m) s_slots s_sends s_recvs (Event.mk s_fe s_fl) (Event.mk s_ee s_el) s_now s_thr s_log) id=true
  · have hp:=pc_of (s:=(State.mk (Config.mk s_lg s_th s_pol s_wt s_spin s_yld s_single) (Word.mk s_h s_t s_m) s_slots s_sends s_recvs (Event.mk s_fe s_fl) (Event.mk s_ee s_el) s_now s_thr s_log)) (id:=id) (by simp only [sIs,Bool.and_eq_true] at hI; exact hI.1.1)
    simp only [me] at hp
    have hs:sStep (State.mk (Config.mk s_lg s_th s_pol s_wt s_spin s_yld s_single) (Word.mk s_h s_t s_m) s_slots s_sends s_recvs (Event.mk s_fe s_fl) (Event.mk s_ee s_el) s_now s_thr s_log) id=(match (s_thr.getD id.toNat default).pc.toNat with | 0=>sEnter (State.mk (Config.mk s_lg s_th s_pol s_wt s_spin s_yld s_single) (Word.mk s_h s_t s_m) s_slots s_sends s_recvs (Event.mk s_fe s_fl) (Event.mk s_ee s_el) s_now s_thr s_log) id | 1=>sFirst (State.mk (Config.mk s_lg s_th s_pol s_wt s_spin s_yld s_single) (Word.mk s_h s_t s_m) s_slots s_sends s_recvs (Event.mk s_fe s_fl) (Event.mk s_ee s_el) s_now s_thr s_log) id | 2=>sLook (State.mk (Config.mk s_lg s_th s_pol s_wt s_spin s_yld s_single) (Word.mk s_h s_t s_m) s_slots s_sends s_recvs (Event.mk s_fe s_fl) (Event.mk s_ee s_el) s_now s_thr s_log) id | 3=>sWrite (State.mk (Config.mk s_lg s_th s_pol s_wt s_spin s_yld s_single) (Word.mk s_h s_t s_m) s_slots s_sends s_recvs (Event.mk s_fe s_fl) (Event.mk s_ee s_el) s_now s_thr s_log) id | 4=>sAccept (State.mk (Config.mk s_lg s_th s_pol s_wt s_spin s_yld s_single) (Word.mk s_h s_t s_m) s_slots s_sends s_recvs (Event.mk s_fe s_fl) (Event.mk s_ee s_el) s_now s_thr s_log) id | 5=>sPrepare (State.mk (Config.mk s_lg s_th s_pol s_wt s_spin s_yld s_single) (Word.mk s_h s_t s_m) s_slots s_sends s_recvs (Event.mk s_fe s_fl) (Event.mk s_ee s_el) s_now s_thr s_log) id | 6=>sNotify (State.mk (Config.mk s_lg s_th s_pol s_wt s_spin s_yld s_single) (Word.mk s_h s_t s_m) s_slots s_sends s_recvs (Event.mk s_fe s_fl) (Event.mk s_ee s_el) s_now s_thr s_log) id | 7=>sAgain (State.mk (Config.mk s_lg s_th s_pol s_wt s_spin s_yld s_single) (Word.mk s_h s_t s_m) s_slots s_sends s_recvs (Event.mk s_fe s_fl) (Event.mk s_ee s_el) s_now s_thr s_log) id | 8=>sCommit (State.mk (Config.mk s_lg s_th s_pol s_wt s_spin s_yld s_single) (Word.mk s_h s_t s_m) s_slots s_sends s_recvs (Event.mk s_fe s_fl) (Event.mk s_ee s_el) s_now s_thr s_log) id | 9=>sLeave (State.mk (Config.mk s_lg s_th s_pol s_wt s_spin s_yld s_single) (Word.mk s_h s_t s_m) s_slots s_sends s_recvs (Event.mk s_fe s_fl) (Event.mk s_ee s_el) s_now s_thr s_log) id | 10=>sEvict (State.mk (Config.mk s_lg s_th s_pol s_wt s_spin s_yld s_single) (Word.mk s_h s_t s_m) s_slots s_sends s_recvs (Event.mk s_fe s_fl) (Event.mk s_ee s_el) s_now s_thr s_log) id | 11=>sRelease (State.mk (Config.mk s_lg s_th s_pol s_wt s_spin s_yld s_single) (Word.mk s_h s_t s_m) s_slots s_sends s_recvs (Event.mk s_fe s_fl) (Event.mk s_ee s_el) s_now s_thr s_log) id | _=>(State.mk (Config.mk s_lg s_th s_pol s_wt s_spin s_yld s_single) (Word.mk s_h s_t s_m) s_slots s_sends s_recvs (Event.mk s_fe s_fl) (Event.mk s_ee s_el) s_now s_thr s_log)):=by
      unfold sStep
      rw [if_neg (by simp [hI])]
      rfl
    rw [hs]
    have hc:(s_thr.getD id.toNat default).pc=0∨(s_thr.getD id.toNat default).pc=1∨(s_thr.getD id.toNat default).pc=2∨(s_thr.getD id.toNat default).pc=3∨(s_thr.getD id.toNat default).pc=4∨(s_thr.getD id.toNat default).pc=5∨(s_thr.getD id.toNat default).pc=6 ∨
      (s_thr.getD id.toNat default).pc=7∨(s_thr.getD id.toNat default).pc=8∨(s_thr.getD id.toNat default).pc=9∨(s_thr.getD id.toNat default).pc=10∨(s_thr.getD id.toNat default).pc=11:=by omega
    rcases hc with hc | hc | hc | hc | hc | hc | hc | hc | hc | hc | hc | hc
    · rw [hc]; exact con20_0 h1 h2 h3 h4 h5 h6 h7 hI hc
    · rw [hc]; exact con20_1 h1 h2 h3 h4 h5 h6 h7 hI hc
    · rw [hc]; exact con20_2 h1 h2 h3 h4 h5 h6 h7 hI hc
    · rw [hc]; exact con20_3 h1 h2 h3 h4 h5 h6 h7 hI hc
    · rw [hc]; exact con20_4 h1 h2 h3 h4 h5 h6 h7 hI hc
    · rw [hc]; exact con20_5 h1 h2 h3 h4 h5 h6 h7 hI hc
    · rw [hc]; exact con20_6 h1 h2 h3 h4 h5 h6 h7 hI hc
    · rw [hc]; exact con20_7 h1 h2 h3 h4 h5 h6 h7 hI hc
    · rw [hc]; exact con20_8 h1 h2 h3 h4 h5 h6 h7 hI hc
    · rw [hc]; exact con20_9 h1 h2 h3 h4 h5 h6 h7 hI hc
    · rw [hc]; exact con20_10 h1 h2 h3 h4 h5 h6 h7 hI hc
    · rw [hc]; exact con20_11 h1 h2 h3 h4 h5 h6 h7 hI hc
  · have hs:sStep (State.mk (Config.mk s_lg s_th s_pol s_wt s_spin s_yld s_single) (Word.mk s_h s_t s_m) s_slots s_sends s_recvs (Event.mk s_fe s_fl) (Event.mk s_ee s_el) s_now s_thr s_log) id=(State.mk (Config.mk s_lg s_th s_pol s_wt s_spin s_yld s_single) (Word.mk s_h s_t s_m) s_slots s_sends s_recvs (Event.mk s_fe s_fl) (Event.mk s_ee s_el) s_now s_thr s_log):=by unfold sStep; rw [if_pos (by simp [hI])]
    rw [hs]
    exact con20_n h1 h2 h3 h4 h5 h6 h7 (by simpa using hI)

def Bd (s:State) (k:Nat):Prop:=s.slots.length≤k∧s.sends.length≤k∧s.recvs.length≤k∧s.full.ln.length≤k∧s.empty.ln.length≤k∧s.threads.length≤k∧s.log.length≤k
theorem Bd.mono {s:State} {k n:Nat} (h:Bd s k) (hk:k≤n):Bd s n:=by unfold Bd at *; omega
theorem bd_put1 {s:State} {k:Nat} {i:Int} {t:Thread} (h:Bd s k):Bd (put1 s i t) k:=by unfold Bd put1 at *; simp; omega
theorem bd_tell {s:State} {k:Nat} {i a r g:Int} (h:Bd s k):Bd (fabTell s i a r g) (k+1):=by
  unfold fabTell; split
  · unfold Bd logged put1 at *; simp; omega
  · exact h.mono (by omega)
theorem bd_wake {s:State} {k:Nat} {i:Int} (h:Bd s k):Bd (fabWake s i) k:=by
  unfold fabWake; split
  · exact bd_put1 h
  · exact h
theorem bd_rAt {s:State} {k:Nat} {i p:Int} (h:Bd s k):Bd (rAt s i p) k:=bd_put1 h
theorem bd_rOn {s:State} {k:Nat} {i:Int} (h:Bd s k):Bd (rOn s i) k:=bd_put1 h
theorem bd_rTell {s:State} {k:Nat} {i a r g p:Int} (h:Bd s k):Bd (rTell s i a r g p) (k+1):=bd_rAt (bd_tell h)
theorem bd_rEnds {s:State} {k:Nat} {i r p:Int} (h:Bd s k):Bd (rEnds s i r p) (k+1):=bd_rTell h
theorem bd_word {s:State} {k:Nat} {w:Word} (h:Bd s k):Bd (withWord s w) k:=h
theorem bd_slots {s:State} {k:Nat} {l:List Slot} (h:Bd s k) (hl:l.length≤k):Bd (withSlots s l) k:=by unfold Bd withSlots at *; simp; omega
theorem bd_sends {s:State} {k:Nat} {l:List Int} (h:Bd s k) (hl:l.length≤k):Bd (withSends s l) k:=by unfold Bd withSends at *; simp; omega
theorem bd_full {s:State} {k:Nat} {e:Event} (h:Bd s k) (hl:e.ln.length≤k):Bd (withFull s e) k:=by unfold Bd withFull at *; simp; omega
theorem bd_empty {s:State} {k:Nat} {e:Event} (h:Bd s k) (hl:e.ln.length≤k):Bd (withEmpty s e) k:=by unfold Bd withEmpty at *; simp; omega
theorem lEnter_len {l:List Int} {id:Int}:(lEnter l id).1.length≤l.length+1:=by
  unfold lEnter; split
  · simp
  · split <;> simp
theorem lLeave_len {l:List Int} {id:Int}:(lLeave l id).1.length≤l.length:=by
  unfold lLeave; split
  · exact Nat.le_refl _
  · exact List.length_eraseIdx_le ..
theorem slotWrite_len {l:List Slot} {p x:Int}:(slotWrite l p x).1.length=l.length:=by
  unfold slotWrite; split
  · rfl
  · split <;> simp
theorem slotRelease_len {l:List Slot} {p:Int}:(slotRelease l p).1.length=l.length:=by
  unfold slotRelease; split
  · rfl
  · split <;> simp
theorem vCommit_len {e:Event} {a b:Int}:(vCommit e a b).1.ln.length≤e.ln.length+1:=by
  unfold vCommit; split
  · simp
  · split
    · simp
    · exact lEnter_len
theorem bd_sStep {s:State} {k:Nat} {id:Int} (h:Bd s k):Bd (sStep s id) (k+1):=by
  have h':=h.mono (Nat.le_succ k)
  have hb:=h
  unfold Bd at hb
  obtain ⟨b1,b2,b3,b4,b5,b6,b7⟩:=hb
  unfold sStep
  split
  · exact h'
  · split
    · exact bd_rAt (bd_sends h' (by have:=@lEnter_len s.sends id; omega))
    · unfold sFirst; split
      · exact bd_rAt h'
      · split
        · exact bd_rEnds h
        · exact bd_rOn h'
    · unfold sLook; split
      · exact bd_rAt (bd_put1 h')
      · split
        · unfold sFull; split
          · exact bd_rEnds h
          · split
            · exact bd_rAt (bd_put1 h')
            · split
              · exact bd_rEnds h
              · split
                · exact bd_rEnds h
                · split
                  · exact bd_rAt h'
                  · exact bd_rOn h'
        · exact bd_rEnds h
    · unfold sWrite; split
      · exact bd_rAt (bd_slots h' (by rw [slotWrite_len]; omega))
      · exact h'
    · unfold sAccept; simp only []; split
      · exact bd_rTell (bd_word h)
      · split
        · exact bd_rAt (bd_word h')
        · exact bd_rEnds (bd_word h)
    · exact bd_rAt (bd_put1 h')
    · unfold sNotify; simp only []
      have he:Bd (withEmpty s (vNotify s.empty).1) (k+1):=bd_empty h' (by have:=@vNotify_len s.empty; omega)
      split
      · exact bd_rAt (bd_wake he)
      · exact bd_rAt he
    · unfold sAgain; split <;> exact bd_rAt h'
    · unfold sCommit; split
      · exact bd_rAt h'
      · simp only []
        have he:Bd (withFull s (vCommit s.full (me s id).seen id).1) (k+1):=bd_full h' (by have:=@vCommit_len s.full (me s id).seen id; omega)
        split
        · exact bd_put1 he
        · exact bd_rAt he
    · exact bd_put1 (bd_sends h' (by have:=@lLeave_len s.sends id; omega))
    · unfold sEvict; simp only []; split
      · exact bd_rAt (bd_word h')
      · exact bd_rTell (bd_word h)
    · unfold sRelease; split
      · exact bd_rAt (bd_slots h' (by rw [slotRelease_len]; omega))
      · exact bd_rAt h'
    · exact h'
theorem bd_sRun (s:State) (id:Int) (n k:Nat) (h:Bd s k):Bd (sRun s id n).1 (k+n):=by
  induction n generalizing s k with
  | zero=>exact h
  | succ n ih =>
    simp only [sRun]
    split
    · have:=ih (sStep s id) (k+1) (bd_sStep h); exact this.mono (by omega)
    · exact h.mono (by omega)
def F17:AFn:=⟨28,(.seq (.reg [o1 3 (.box 33 0),o1 6 (.alloc 33 [(.int .i64 0),(.int .i64 0),(.int .i64 0),(.int .i64 0),(.int .i64 0),(.int .i64 0),(.bool false),(.int .i64 0),(.int .i64 0),(.int .i64 0),.slnil,.slnil,.slnil,(.int .i64 0),.slnil,(.int .i64 0),.slnil,(.int .i64 0),.slnil,.slnil]),o1 7 (.mv (ci 0))]) (.seq (.reg [o1 10 (.ld 20 true 3),o1 11 (.call 50 [10,(ci (-1))]),o1 8 (.alloc 33 [(.int .i64 0),(.int .i64 0),(.int .i64 0),(.int .i64 0),(.int .i64 0),(.int .i64 0),(.bool false),(.int .i64 0),(.int .i64 0),(.int .i64 0),.slnil,.slnil,.slnil,(.int .i64 0),.slnil,(.int .i64 0),.slnil,(.int .i64 0),.slnil,.slnil]),o2 (.st 20 8 11),o1 9 (.mv (ci 0))]) (.seq (.block 0 (.loop (.seq (.seq (.reg [o1 12 (.mv 9),o1 13 (.mv 2),o1 14 (.mn 13 (ci 1000)),o1 15 (.bin .lss 12 14),o1 16 (.mv 15),o3 17 (.ld 20 true 8) 16,o3 18 (.mv 1) 16,o3 19 (.call 51 [17,18]) 16,o1 20 (.pick 16 19 (.const (.bool false)))]) (.cond 20 .skip (.exit 0))) (.block 1 (.reg [o1 21 (.ld 20 true 8),o1 22 (.mv 1),o1 23 (.call 20 [21,22]),o1 24 (.mv 9),o1 25 (.bin .add 24 (ci 1)),o2 (.st 20 8 23),o1 9 (.mv 25)]))))) (.seq (.reg [o1 26 (.ld 20 true 8),o1 27 (.mv 9),o2 (.st 20 6 26),o1 7 (.mv 27)]) .ret)))),[(6,some (20,true)),(7,none)]⟩
theorem x17:xf Tryz.prog 17=some F17:=by kernel_rfl
theorem lt_min {k:Nat} {m:Int} (h:decide ((k:Int)<if 1000<m then 1000 else m)=true):k<(min m 1000).toNat:=by
  simp only [decide_eq_true_eq] at h; split at h <;> omega
theorem ge_min {k:Nat} {m:Int} (h:decide ((k:Int)<if 1000<m then 1000 else m)=false):(min m 1000).toNat≤k:=by
  simp only [decide_eq_false_iff_not] at h; split at h <;> omega
theorem run_next {s:State} {id:Int} {N k:Nat} (h:sIs s id=true) (hk:k<N):sRun s id (N - k)=((sRun (sStep s id) id (N - (k+1))).1,(sRun (sStep s id) id (N - (k+1))).2+1):=by
  rw [show N - k=(N - (k+1))+1 from by omega]
  simp only [sRun,h,if_true]
theorem run_end {s:State} {id:Int} {N k:Nat} (h:N≤k∨sIs s id=false):sRun s id (N - k)=(s,0):=by
  rcases h with h | h
  · rw [show N - k=0 from by omega]; rfl
  · cases hn:N - k with
    | zero=>rfl
    | succ n=>simp only [sRun,h,Bool.false_eq_true,if_false]
theorem run_wk {s st:State} {id m:Int} {k:Nat} (h:sRun s id (min m 1000).toNat=((sRun st id ((min m 1000).toNat - k)).1,(sRun st id ((min m 1000).toNat - k)).2+k)) (he:(min m 1000).toNat≤k∨sIs st id=false):Wk (.tup [.agg (encZ st),.int .i64 k]) (.tup [.agg (encZ (sSteps s id m).1),.int .i64 (sSteps s id m).2]):=by
  rw [run_end he] at h
  unfold sSteps
  rw [h]
  simp only [Nat.zero_add]
  exact Wk.refl _
theorem wake_m1' {s:State}:fabWake s (-1)=s:=if_neg (by simp [fabIs])
theorem Bd.all {s:State} {k:Nat} (h:Bd s k):s.slots.length≤k∧s.sends.length≤k∧s.recvs.length≤k∧s.full.ln.length≤k∧s.empty.ln.length≤k∧s.threads.length≤k∧s.log.length≤k:=h
theorem con20s {s:State} {id:Int} (h:Bd s 100000000):Con Tryz.prog 20 [.agg (encZ s),.int .i64 id] (.agg (encZ (sStep s id)),[],[]):=by
  obtain ⟨h1,h2,h3,h4,h5,h6,h7⟩:=h.all
  exact con20 h1 h2 h3 h4 h5 h6 h7
theorem con51s {s:State} {id:Int} (h:Bd s 100000000):Con Tryz.prog 51 [.agg (encZ s),.int .i64 id] (.bool (sIs s id),[],[]):=by
  obtain ⟨h1,h2,h3,h4,h5,h6,h7⟩:=h.all
  exact con51 h1 h2 h3 h4 h5 h6 h7
theorem con50s {s:State} (h:Bd s 100000000):Con Tryz.prog 50 [.agg (encZ s),.int .i64 (-1)] (.agg (encZ s),[],[]):=by
  obtain ⟨h1,h2,h3,h4,h5,h6,h7⟩:=h.all
  have:=con50 (s_lg:=s.cfg.lg) (s_th:=s.cfg.th) (s_pol:=s.cfg.pol) (s_wt:=s.cfg.wt) (s_spin:=s.cfg.spin) (s_yld:=s.cfg.yld) (s_single:=s.cfg.single) (s_h:=s.word.h) (s_t:=s.word.t) (s_m:=s.word.m) (s_fe:=s.full.ep) (s_ee:=s.empty.ep) (s_now:=s.now) (id:=-1) h1 h2 h3 h4 h5 h6 h7
  rw [wake_m1'] at this
  exact this
theorem con17 {s:State} {id m:Int} (h:Bd s 10000000):Con Tryz.prog 17 [.agg (encZ s),.int .i64 id,.int .i64 m] (.tup [.agg (encZ (sSteps s id m).1),.int .i64 (sSteps s id m).2],[],[]):=by
  have hs:=h.mono (n:=100000000) (by omega)
  refine mcb_of_vc mix x17 (by simp [F17]) fun hw _=>?_
  simp only [wfs,AV.wf,inR_i64] at hw
  repeat' with_reducible first|refine gTn_of (fun h=>?_) (fun h=>?_)|refine gT_of (fun h=>?_) (fun h=>?_)|refine caseTn_of (fun h=>?_) (fun h=>?_)|refine caseT_of (fun h=>?_) (fun h=>?_)|refine FN ?_ ?_ ?_ ?_ rfl ?_|refine kv_ifn ?_ ?_|refine kv_if ?_ ?_|refine k_if ?_ ?_|refine IA ?_ ?_ ?_|refine L1 ?_ ?_|refine L2 ?_ ?_|refine L3 ?_ ?_ ?_ ?_|refine L4 ?_ ?_|refine L5 ?_ ?_ ?_ ?_ ?_|refine L6 ?_ ?_ ?_ ?_ ?_|refine AC.p0 (con50s ?_) ?_ (by simp -implicitDefEqProofs only [qU,pure_encZ]; done) ?_ ?_|refine AC.p0 (con51s ?_) ?_ (by simp -implicitDefEqProofs only [qU,pure_encZ]; done) ?_ ?_|refine AC.p0 (con20s ?_) ?_ (by simp -implicitDefEqProofs only [qU,pure_encZ]; done) ?_ ?_|refine rm_of [] [(2,2),(3,3)] (k+1,sStep st id) ?_ ?_ ?_ ?_ ?_ ?_|simp -implicitDefEqProofs only [F17,qA,ld_0,ld_pv,st_0,splice,doEqs,qU,List.reduceReplicate,Nat.reduceAdd,Nat.reduceSub,Nat.reduceLeDiff,Nat.reduceEqDiff,Nat.reduceMul,reduceIte,reduceCtorEq,qI,Nat.reduceLT,Nat.reduceBEq,up_s,Int.toNat_natCast,encT,qZ,lm_normal,lm_exit,lm_ret,Int.natCast_zero, *]
  all_goals first
    | refine lm_of 5 (fun s:Nat×State=>[none,some (.int .i64 id),some (.int .i64 m),none,none,none,some (.ptr 2 0 0),none,some (.ptr 3 0 0),some (.int .i64 s.1),none,none,none,none,none,none,none,none,none,none,none,none,none,none,none,none,none,none]) (fun s=>[(2,.rows 33 20 [[(.int .i64 0),(.int .i64 0),(.int .i64 0),(.int .i64 0),(.int .i64 0),(.int .i64 0),(.bool false),(.int .i64 0),(.int .i64 0),(.int .i64 0),.slnil,.slnil,.slnil,(.int .i64 0),.slnil,(.int .i64 0),.slnil,(.int .i64 0),.slnil,.slnil]]),(3,.rows 33 20 [encZ s.2])]) (fun t=>t.1≤(min m 1000).toNat∧sRun s id (min m 1000).toNat=((sRun t.2 id ((min m 1000).toNat - t.1)).1,(sRun t.2 id ((min m 1000).toNat - t.1)).2+t.1)∧Bd t.2 (10000000+t.1)) (fun t=>(min m 1000).toNat - t.1) [] [(17,2),(81,3)] (0,s) (by omega) ?_ ?_ ?_ ?_ ?_ ?_
    | omega
    | exact hs
  rotate_right
  · rintro ⟨k,st⟩ ⟨hJ1,hJ2,hJ3⟩
    simp only [] at hJ1 hJ2 hJ3
    have hb:=hJ3.mono (n:=100000000) (by omega)
    simp only [all_some,all_none,all_nil]
    intros
    repeat' with_reducible first|refine gTn_of (fun h=>?_) (fun h=>?_)|refine gT_of (fun h=>?_) (fun h=>?_)|refine caseTn_of (fun h=>?_) (fun h=>?_)|refine caseT_of (fun h=>?_) (fun h=>?_)|refine FN ?_ ?_ ?_ ?_ rfl ?_|refine kv_ifn ?_ ?_|refine kv_if ?_ ?_|refine k_if ?_ ?_|refine IA ?_ ?_ ?_|refine L1 ?_ ?_|refine L2 ?_ ?_|refine L3 ?_ ?_ ?_ ?_|refine L4 ?_ ?_|refine L5 ?_ ?_ ?_ ?_ ?_|refine L6 ?_ ?_ ?_ ?_ ?_|refine AC.p0 (con50s ?_) ?_ (by simp -implicitDefEqProofs only [qU,pure_encZ]; done) ?_ ?_|refine AC.p0 (con51s ?_) ?_ (by simp -implicitDefEqProofs only [qU,pure_encZ]; done) ?_ ?_|refine AC.p0 (con20s ?_) ?_ (by simp -implicitDefEqProofs only [qU,pure_encZ]; done) ?_ ?_|refine rm_of [] [(2,2),(3,3)] (k+1,sStep st id) ?_ ?_ ?_ ?_ ?_ ?_|simp -implicitDefEqProofs only [F17,qA,ld_0,ld_pv,st_0,splice,doEqs,qU,List.reduceReplicate,Nat.reduceAdd,Nat.reduceSub,Nat.reduceLeDiff,Nat.reduceEqDiff,Nat.reduceMul,reduceIte,reduceCtorEq,qI,Nat.reduceLT,Nat.reduceBEq,up_s,Int.toNat_natCast,encT,qZ,lm_normal,lm_exit,lm_ret,Int.natCast_zero, *]
    all_goals first
      | exact hb
      | exact run_wk hJ2 (.inr (by assumption))
      | exact run_wk hJ2 (.inl (ge_min (by assumption)))
      | (have hk:=lt_min (m:=m) (k:=k) (by assumption)
         first
         | omega
         | (refine ⟨hk,?_,(bd_sStep hJ3).mono (by omega)⟩
            rw [run_next (by assumption) hk]
            simp only []
            refine ⟨trivial,by omega⟩)
         | (simp; grind [wrap64]))
      | trace_state
  all_goals first
    | rfl
    | (simp -implicitDefEqProofs only [qA,ld_0,ld_pv,st_0,splice,doEqs,qU,List.reduceReplicate,Nat.reduceAdd,Nat.reduceSub,Nat.reduceLeDiff,Nat.reduceEqDiff,Nat.reduceMul,reduceIte,reduceCtorEq,qI,Nat.reduceLT,Nat.reduceBEq,qZ]; done)
    | (simp -implicitDefEqProofs only [qA,ld_0,ld_pv,st_0,splice,doEqs,qU,List.reduceReplicate,Nat.reduceAdd,Nat.reduceSub,Nat.reduceLeDiff,Nat.reduceEqDiff,Nat.reduceMul,reduceIte,reduceCtorEq,qI,Nat.reduceLT,Nat.reduceBEq,qZ]; simp; done)
    | (simp; done)
    | exact ⟨Nat.zero_le _,rfl,h⟩
    | trace_state

end Go.Sak
