/- Part S117 of the proofs about the program: K221, K222. Conditions: none. -/
import Derived.Test.YtahdilehajdhgaaGreatS110
import Derived.Test.YtahdilehajdhgaaGreatS111
import Derived.Test.YtahdilehajdhgaaGreatS114
import Derived.Test.YtahdilehajdhgaaGreatS04
import Derived.Test.YtahdilehajdhgaaGreatProg
import Derived.KernelRfl
import Derived.Test.YtahdilehajdhgaaGreatS109
import Derived.Test.YtahdilehajdhgaaGreatS116
import Derived.Test.YtahdilehajdhgaaGreatS21
namespace Go.Sak
open Go Go.RowKit Go.Proofs
set_option linter.unusedVariables false
set_option linter.unusedSimpArgs false
set_option maxRecDepth 10000
set_option maxHeartbeats 8000000
theorem fin_tk {b:Nat} {c:List AV} {l:List Thread} {m0:AM} (hc:inNs [3] c=true):FinS 5 m0 (.tup [],inlU m0 [(3,.rows 42 11 (l.map encT)),(2,.rows 33 20 [c])],[]) (.tup []) [(2,.rows 33 20 [c]),(3,.rows 42 11 (l.map encT))] b:=by
  suffices hf:FinS 5 m0 (.tup [],inlU m0 [(2,.rows 33 20 [c]),(3,.rows 42 11 (l.map encT))],[]) (.tup []) [(2,.rows 33 20 [c]),(3,.rows 42 11 (l.map encT))] b by
    obtain ⟨v',m',b',q1,q2,q3,q4⟩:=hf
    refine ⟨v',m',b',q1,q2,q3.trans ?_,q4⟩
    simp only []
    rw [← inlU_get (by simp),← inlU_get (by simp)]
    funext k
    simp only [AM.get]
    by_cases e2:k=2
    · subst e2; simp
    · by_cases e3:k=3
      · subst e3; simp
      · simp [e2,e3]
  refine fin_in [] [] (by simp [stOk]) rfl ?_ (by simp) (AV.tr_pure _ _ rfl)
  have h1:trs (stT 5 20 [] [] [(2,.rows 33 20 [c]),(3,.rows 42 11 (l.map encT))]) c=c:=trs_inN (L:=[3]) (fun g hg=>by
    have:g=3:=by simpa using hg
    subst this
    exact ⟨fun _ _=>by simp [stT,nameT],fun _=>by simp [stT,nameT],by simp [stT,nameT]⟩) c hc
  simp only [stM,nameT,Blk.tr,trss,List.contains_nil,Bool.false_eq_true,if_false,lk,Option.isSome_none,or_false,Nat.reduceLT,if_true]
  rw [h1,trss_enc _ pure_encT]
def F43:AFn:=⟨38,(.seq (.reg [o1 4 (.faddr 18 1),o1 5 (.ld 1 false 4),o1 6 (.mv 0),o1 7 (.iaddr 11 5 6),o1 3 (.mv 7)]) (.seq (.seq (.reg [o1 8 (.mv 3),o1 9 (.nilchk 8),o1 10 (.faddr 8 9),o2 (.st 1 10 (.const (.bool true)))]) (.seq (.reg [o1 11 (.mv 3),o1 12 (.nilchk 11),o1 13 (.faddr 0 12),o1 14 (.ld 1 false 13),o1 15 (.bin .neq 14 (ci 2))]) (.cond 15 .ret .skip))) (.seq (.reg [o1 17 (.faddr 13 1),o1 18 (.ld 2 true 17),o1 19 (.mv 0),o1 20 (.call 44 [18,19]),o1 16 (.mv 20),o1 21 (.ext 16 0),o1 22 (.ext 16 1),o1 23 (.faddr 13 1),o2 (.st 2 23 21)]) (.seq (.reg [o1 25 (.faddr 15 1),o1 26 (.ld 2 true 25),o1 27 (.mv 0),o1 28 (.call 44 [26,27]),o1 24 (.mv 28),o1 29 (.ext 24 0),o1 30 (.ext 24 1),o1 31 (.faddr 15 1),o2 (.st 2 31 29)]) (.reg [o1 32 (.mv 3),o1 33 (.mv 3),o1 34 (.nilchk 33),o1 35 (.ld 11 true 34),o1 36 (.call 45 [35]),o1 37 (.nilchk 32),o2 (.st 11 37 36)]))))),[]⟩
theorem x43:xf Tryz.prog 43=some F43:=by kernel_rfl
theorem con43a {s_lg s_th:Int} {s_pol s_wt:Int} {s_spin s_yld:Int} {s_single:Bool} {s_h s_t s_m:Int} {s_slots:List Slot} {s_sends s_recvs:List Int} {s_fe:Int} {s_fl:List Int} {s_ee:Int} {s_el:List Int} {s_now:Int} {s_thr:List Thread} {s_log:List Entry} {id:Int} (h1:s_slots.length≤100000000) (h2:s_sends.length≤100000000) (h3:s_recvs.length≤100000000) (h4:s_fl.length≤100000000) (h5:s_el.length≤100000000) (h6:s_thr.length≤100000000) (h7:s_log.length≤100000000) (hid:0≤id∧id.toNat<s_thr.length) (hst:¬ (s_thr.getD id.toNat default).st=2):MCb Tryz.prog 43 [.int .i64 id,.ptr 2 0 0] (.tup [],inlU [(2,.rows 33 20 [[.int .i64 s_lg,.int .i64 s_th,.int .i64 s_pol,.int .i64 s_wt,.int .i64 s_spin,.int .i64 s_yld,.bool s_single,.int .i64 s_h,.int .i64 s_t,.int .i64 s_m,.slv 2 (s_slots.map encS),.slv 1 (s_sends.map encI),.slv 1 (s_recvs.map encI),.int .i64 s_fe,.slv 1 (s_fl.map encI),.int .i64 s_ee,.slv 1 (s_el.map encI),.int .i64 s_now,.slm 3 s_thr.length,.slv 5 (s_log.map encE)]]),(3,.rows 42 11 ((s_thr).map encT))] [(3,.rows 42 11 ((s_thr.set id.toNat (tLate (s_thr.getD id.toNat default))).map encT)),(2,.rows 33 20 [[.int .i64 s_lg,.int .i64 s_th,.int .i64 s_pol,.int .i64 s_wt,.int .i64 s_spin,.int .i64 s_yld,.bool s_single,.int .i64 s_h,.int .i64 s_t,.int .i64 s_m,.slv 2 (s_slots.map encS),.slv 1 (s_sends.map encI),.slv 1 (s_recvs.map encI),.int .i64 s_fe,.slv 1 (s_fl.map encI),.int .i64 s_ee,.slv 1 (s_el.map encI),.int .i64 s_now,.slm 3 s_thr.length,.slv 5 (s_log.map encE)]])],[]) (AM.get [(2,.rows 33 20 [[.int .i64 s_lg,.int .i64 s_th,.int .i64 s_pol,.int .i64 s_wt,.int .i64 s_spin,.int .i64 s_yld,.bool s_single,.int .i64 s_h,.int .i64 s_t,.int .i64 s_m,.slv 2 (s_slots.map encS),.slv 1 (s_sends.map encI),.slv 1 (s_recvs.map encI),.int .i64 s_fe,.slv 1 (s_fl.map encI),.int .i64 s_ee,.slv 1 (s_el.map encI),.int .i64 s_now,.slm 3 s_thr.length,.slv 5 (s_log.map encE)]]),(3,.rows 42 11 ((s_thr).map encT))]) 5:=by
  suffices hh:∀ e,(∀ b,FinS 5 [(2,.rows 33 20 [[.int .i64 s_lg,.int .i64 s_th,.int .i64 s_pol,.int .i64 s_wt,.int .i64 s_spin,.int .i64 s_yld,.bool s_single,.int .i64 s_h,.int .i64 s_t,.int .i64 s_m,.slv 2 (s_slots.map encS),.slv 1 (s_sends.map encI),.slv 1 (s_recvs.map encI),.int .i64 s_fe,.slv 1 (s_fl.map encI),.int .i64 s_ee,.slv 1 (s_el.map encI),.int .i64 s_now,.slm 3 s_thr.length,.slv 5 (s_log.map encE)]]),(3,.rows 42 11 ((s_thr).map encT))] e (.tup []) [(2,.rows 33 20 [[.int .i64 s_lg,.int .i64 s_th,.int .i64 s_pol,.int .i64 s_wt,.int .i64 s_spin,.int .i64 s_yld,.bool s_single,.int .i64 s_h,.int .i64 s_t,.int .i64 s_m,.slv 2 (s_slots.map encS),.slv 1 (s_sends.map encI),.slv 1 (s_recvs.map encI),.int .i64 s_fe,.slv 1 (s_fl.map encI),.int .i64 s_ee,.slv 1 (s_el.map encI),.int .i64 s_now,.slm 3 s_thr.length,.slv 5 (s_log.map encE)]]),(3,.rows 42 11 ((s_thr.set id.toNat (tLate (s_thr.getD id.toNat default))).map encT))] b)→MCb Tryz.prog 43 [.int .i64 id,.ptr 2 0 0] e (AM.get [(2,.rows 33 20 [[.int .i64 s_lg,.int .i64 s_th,.int .i64 s_pol,.int .i64 s_wt,.int .i64 s_spin,.int .i64 s_yld,.bool s_single,.int .i64 s_h,.int .i64 s_t,.int .i64 s_m,.slv 2 (s_slots.map encS),.slv 1 (s_sends.map encI),.slv 1 (s_recvs.map encI),.int .i64 s_fe,.slv 1 (s_fl.map encI),.int .i64 s_ee,.slv 1 (s_el.map encI),.int .i64 s_now,.slm 3 s_thr.length,.slv 5 (s_log.map encE)]]),(3,.rows 42 11 ((s_thr).map encT))]) 5 from hh _ fun b=>fin_tk (by simp [inNs,AV.inN,inNss_enc pure_encI,inNss_enc pure_encS,inNss_enc pure_encE])
  intro e hf
  have hi1:id.toNat<s_thr.length:=hid.2
  refine mcb_of_vc mix x43 (by simp [F43]) fun hw _=>?_
  clear hw
  repeat' with_reducible first|refine gTn_of (fun h=>?_) (fun h=>?_)|refine gT_of (fun h=>?_) (fun h=>?_)|refine caseTn_of (fun h=>?_) (fun h=>?_)|refine caseT_of (fun h=>?_) (fun h=>?_)|refine FN ?_ ?_ ?_ ?_ rfl ?_|refine kv_ifn ?_ ?_|refine kv_if ?_ ?_|refine k_if ?_ ?_|refine IA ?_ ?_ ?_|refine L1 ?_ ?_|refine L2 ?_ ?_|refine L3 ?_ ?_ ?_ ?_|refine L4 ?_ ?_|refine L5 ?_ ?_ ?_ ?_ ?_|refine L6 ?_ ?_ ?_ ?_ ?_|refine P0 (con44 ?_) ?_ ?_ ?_|refine P0 con45 ?_ ?_ ?_|simp -implicitDefEqProofs only [F43,qA,ld_0,ld_pv,st_0,splice,doEqs,qU,List.reduceReplicate,Nat.reduceAdd,Nat.reduceSub,Nat.reduceLeDiff,Nat.reduceEqDiff,Nat.reduceMul,reduceIte,reduceCtorEq,qI,Nat.reduceLT,Nat.reduceBEq,up_s,Int.toNat_natCast,encT,encV,hst,set_set,getD_set_same,tLate, *]
  all_goals first
    | omega
    | exact hf _
    | (constructor <;> omega)
    | (simp [hst]; done)
    | trace_state

theorem con43b {s_lg s_th:Int} {s_pol s_wt:Int} {s_spin s_yld:Int} {s_single:Bool} {s_h s_t s_m:Int} {s_slots:List Slot} {s_sends s_recvs:List Int} {s_fe:Int} {s_fl:List Int} {s_ee:Int} {s_el:List Int} {s_now:Int} {s_thr:List Thread} {s_log:List Entry} {id:Int} (h1:s_slots.length≤100000000) (h2:s_sends.length≤100000000) (h3:s_recvs.length≤100000000) (h4:s_fl.length≤100000000) (h5:s_el.length≤100000000) (h6:s_thr.length≤100000000) (h7:s_log.length≤100000000) (hid:0≤id∧id.toNat<s_thr.length) (hst:(s_thr.getD id.toNat default).st=2):MCb Tryz.prog 43 [.int .i64 id,.ptr 2 0 0] (.tup [],inlU [(2,.rows 33 20 [[.int .i64 s_lg,.int .i64 s_th,.int .i64 s_pol,.int .i64 s_wt,.int .i64 s_spin,.int .i64 s_yld,.bool s_single,.int .i64 s_h,.int .i64 s_t,.int .i64 s_m,.slv 2 (s_slots.map encS),.slv 1 (s_sends.map encI),.slv 1 (s_recvs.map encI),.int .i64 s_fe,.slv 1 (s_fl.map encI),.int .i64 s_ee,.slv 1 (s_el.map encI),.int .i64 s_now,.slm 3 s_thr.length,.slv 5 (s_log.map encE)]]),(3,.rows 42 11 ((s_thr).map encT))] [(3,.rows 42 11 ((s_thr.set id.toNat (tWake (tLate (s_thr.getD id.toNat default)))).map encT)),(2,.rows 33 20 [[.int .i64 s_lg,.int .i64 s_th,.int .i64 s_pol,.int .i64 s_wt,.int .i64 s_spin,.int .i64 s_yld,.bool s_single,.int .i64 s_h,.int .i64 s_t,.int .i64 s_m,.slv 2 (s_slots.map encS),.slv 1 (s_sends.map encI),.slv 1 (s_recvs.map encI),.int .i64 (vCancel (Event.mk s_fe s_fl) id).1.ep,.slv 1 ((vCancel (Event.mk s_fe s_fl) id).1.ln.map encI),.int .i64 (vCancel (Event.mk s_ee s_el) id).1.ep,.slv 1 ((vCancel (Event.mk s_ee s_el) id).1.ln.map encI),.int .i64 s_now,.slm 3 s_thr.length,.slv 5 (s_log.map encE)]])],[]) (AM.get [(2,.rows 33 20 [[.int .i64 s_lg,.int .i64 s_th,.int .i64 s_pol,.int .i64 s_wt,.int .i64 s_spin,.int .i64 s_yld,.bool s_single,.int .i64 s_h,.int .i64 s_t,.int .i64 s_m,.slv 2 (s_slots.map encS),.slv 1 (s_sends.map encI),.slv 1 (s_recvs.map encI),.int .i64 s_fe,.slv 1 (s_fl.map encI),.int .i64 s_ee,.slv 1 (s_el.map encI),.int .i64 s_now,.slm 3 s_thr.length,.slv 5 (s_log.map encE)]]),(3,.rows 42 11 ((s_thr).map encT))]) 5:=by
  suffices hh:∀ e,(∀ b,FinS 5 [(2,.rows 33 20 [[.int .i64 s_lg,.int .i64 s_th,.int .i64 s_pol,.int .i64 s_wt,.int .i64 s_spin,.int .i64 s_yld,.bool s_single,.int .i64 s_h,.int .i64 s_t,.int .i64 s_m,.slv 2 (s_slots.map encS),.slv 1 (s_sends.map encI),.slv 1 (s_recvs.map encI),.int .i64 s_fe,.slv 1 (s_fl.map encI),.int .i64 s_ee,.slv 1 (s_el.map encI),.int .i64 s_now,.slm 3 s_thr.length,.slv 5 (s_log.map encE)]]),(3,.rows 42 11 ((s_thr).map encT))] e (.tup []) [(2,.rows 33 20 [[.int .i64 s_lg,.int .i64 s_th,.int .i64 s_pol,.int .i64 s_wt,.int .i64 s_spin,.int .i64 s_yld,.bool s_single,.int .i64 s_h,.int .i64 s_t,.int .i64 s_m,.slv 2 (s_slots.map encS),.slv 1 (s_sends.map encI),.slv 1 (s_recvs.map encI),.int .i64 (vCancel (Event.mk s_fe s_fl) id).1.ep,.slv 1 ((vCancel (Event.mk s_fe s_fl) id).1.ln.map encI),.int .i64 (vCancel (Event.mk s_ee s_el) id).1.ep,.slv 1 ((vCancel (Event.mk s_ee s_el) id).1.ln.map encI),.int .i64 s_now,.slm 3 s_thr.length,.slv 5 (s_log.map encE)]]),(3,.rows 42 11 ((s_thr.set id.toNat (tWake (tLate (s_thr.getD id.toNat default)))).map encT))] b)→MCb Tryz.prog 43 [.int .i64 id,.ptr 2 0 0] e (AM.get [(2,.rows 33 20 [[.int .i64 s_lg,.int .i64 s_th,.int .i64 s_pol,.int .i64 s_wt,.int .i64 s_spin,.int .i64 s_yld,.bool s_single,.int .i64 s_h,.int .i64 s_t,.int .i64 s_m,.slv 2 (s_slots.map encS),.slv 1 (s_sends.map encI),.slv 1 (s_recvs.map encI),.int .i64 s_fe,.slv 1 (s_fl.map encI),.int .i64 s_ee,.slv 1 (s_el.map encI),.int .i64 s_now,.slm 3 s_thr.length,.slv 5 (s_log.map encE)]]),(3,.rows 42 11 ((s_thr).map encT))]) 5 from hh _ fun b=>fin_tk (by simp [inNs,AV.inN,inNss_enc pure_encI,inNss_enc pure_encS,inNss_enc pure_encE])
  intro e hf
  have hL:tLate (s_thr.getD id.toNat default)=⟨2,(s_thr.getD id.toNat default).kind,(s_thr.getD id.toNat default).val,(s_thr.getD id.toNat default).untl,(s_thr.getD id.toNat default).pc,(s_thr.getD id.toNat default).reg,(s_thr.getD id.toNat default).seen,(s_thr.getD id.toNat default).tries,true,(s_thr.getD id.toNat default).res,(s_thr.getD id.toNat default).got⟩:=by rw [← hst]; rfl
  rw [hL] at hf
  clear hL
  have hi1:id.toNat<s_thr.length:=hid.2
  refine mcb_of_vc mix x43 (by simp [F43]) fun hw _=>?_
  clear hw
  repeat' with_reducible first|refine gTn_of (fun h=>?_) (fun h=>?_)|refine gT_of (fun h=>?_) (fun h=>?_)|refine caseTn_of (fun h=>?_) (fun h=>?_)|refine caseT_of (fun h=>?_) (fun h=>?_)|refine FN ?_ ?_ ?_ ?_ rfl ?_|refine kv_ifn ?_ ?_|refine kv_if ?_ ?_|refine k_if ?_ ?_|refine IA ?_ ?_ ?_|refine L1 ?_ ?_|refine L2 ?_ ?_|refine L3 ?_ ?_ ?_ ?_|refine L4 ?_ ?_|refine L5 ?_ ?_ ?_ ?_ ?_|refine L6 ?_ ?_ ?_ ?_ ?_|refine P0 (con44 ?_) ?_ ?_ ?_|refine P0 con45 ?_ ?_ ?_|simp -implicitDefEqProofs only [F43,qA,ld_0,ld_pv,st_0,splice,doEqs,qU,List.reduceReplicate,Nat.reduceAdd,Nat.reduceSub,Nat.reduceLeDiff,Nat.reduceEqDiff,Nat.reduceMul,reduceIte,reduceCtorEq,qI,Nat.reduceLT,Nat.reduceBEq,up_s,Int.toNat_natCast,encT,encV,hst,set_set,getD_set_same,tLate, *]
  all_goals first
    | omega
    | exact hf _
    | (constructor <;> omega)
    | (simp [hst]; done)
    | trace_state

def mT (s:State):AM:=[(2,.rows 33 20 [encX s (.slm 3 s.threads.length) (.slv 5 (s.log.map encE))]),(3,.rows 42 11 (s.threads.map encT))]
def mR (s:State):AM:=[(3,.rows 42 11 (s.threads.map encT)),(2,.rows 33 20 [encX s (.slm 3 s.threads.length) (.slv 5 (s.log.map encE))])]
theorem con43s {s:State} {id:Int} (h:Bd s 100000000) (hid:0≤id∧id.toNat<s.threads.length):MCb Tryz.prog 43 [.int .i64 id,.ptr 2 0 0] (.tup [],inlU (mT s) (mR (tkLate s id)),[]) (mT s).get 5:=by
  obtain ⟨⟨s_lg,s_th,s_pol,s_wt,s_spin,s_yld,s_single⟩,⟨s_h,s_t,s_m⟩,s_slots,s_sends,s_recvs,⟨s_fe,s_fl⟩,⟨s_ee,s_el⟩,s_now,s_thr,s_log⟩:=s
  obtain ⟨h1,h2,h3,h4,h5,h6,h7⟩:=h.all
  by_cases hst:(s_thr.getD id.toNat default).st=2
  · have e:tkLate (State.mk (Config.mk s_lg s_th s_pol s_wt s_spin s_yld s_single) (Word.mk s_h s_t s_m) s_slots s_sends s_recvs (Event.mk s_fe s_fl) (Event.mk s_ee s_el) s_now s_thr s_log) id=put1 (withEmpty (withFull (State.mk (Config.mk s_lg s_th s_pol s_wt s_spin s_yld s_single) (Word.mk s_h s_t s_m) s_slots s_sends s_recvs (Event.mk s_fe s_fl) (Event.mk s_ee s_el) s_now s_thr s_log) (vCancel ⟨s_fe,s_fl⟩ id).1) (vCancel ⟨s_ee,s_el⟩ id).1) id (tWake (tLate (s_thr.getD id.toNat default))):=if_neg (fun h=>h hst)
    rw [e]
    unfold mT mR
    simp only [put1,withFull,withEmpty,List.length_set,encX]
    exact con43b h1 h2 h3 h4 h5 h6 h7 hid hst
  · have e:tkLate (State.mk (Config.mk s_lg s_th s_pol s_wt s_spin s_yld s_single) (Word.mk s_h s_t s_m) s_slots s_sends s_recvs (Event.mk s_fe s_fl) (Event.mk s_ee s_el) s_now s_thr s_log) id=put1 (State.mk (Config.mk s_lg s_th s_pol s_wt s_spin s_yld s_single) (Word.mk s_h s_t s_m) s_slots s_sends s_recvs (Event.mk s_fe s_fl) (Event.mk s_ee s_el) s_now s_thr s_log) id (tLate (s_thr.getD id.toNat default)):=if_pos hst
    rw [e]
    unfold mT mR
    simp only [put1,List.length_set,encX]
    exact con43a h1 h2 h3 h4 h5 h6 h7 hid hst
def F16:AFn:=⟨57,(.seq (.reg [o1 2 (.box 33 0),o1 4 (.alloc 33 [(.int .i64 0),(.int .i64 0),(.int .i64 0),(.int .i64 0),(.int .i64 0),(.int .i64 0),(.bool false),(.int .i64 0),(.int .i64 0),(.int .i64 0),.slnil,.slnil,.slnil,(.int .i64 0),.slnil,(.int .i64 0),.slnil,(.int .i64 0),.slnil,.slnil]),o1 5 (.mv (.const .slnil)),o1 6 (.mv (ci 0))]) (.seq (.reg [o1 13 (.ld 20 true 2),o1 14 (.call 41 [13,(ci (-1))]),o1 7 (.alloc 33 [(.int .i64 0),(.int .i64 0),(.int .i64 0),(.int .i64 0),(.int .i64 0),(.int .i64 0),(.bool false),(.int .i64 0),(.int .i64 0),(.int .i64 0),.slnil,.slnil,.slnil,(.int .i64 0),.slnil,(.int .i64 0),.slnil,(.int .i64 0),.slnil,.slnil]),o2 (.st 20 7 14)]) (.seq (.block 0 (.seq (.reg [o1 16 (.ld 20 true 2),o1 17 (.call 18 [16]),o1 18 (.not 17),o1 15 (.mv 18)]) (.cond 15 (.seq (.reg [o1 19 (.ld 20 true 7),o2 (.st 20 4 19),o1 5 (.mv (.const .slnil)),o1 6 (.mv (ci 20))]) .ret) (.seq (.reg [o1 21 (.mv 1),o1 22 (.bin .lss 21 (ci 0)),o1 23 (.mv 22),o4 24 (.mv 1) 23,o4 25 (.faddr 17 2) 23,o4 26 (.ld 1 false 25) 23,o4 27 (.bin .sub (ci 1099511627776) 26) 23,o4 28 (.bin .gtr 24 27) 23,o1 29 (.pick 23 (.const (.bool true)) 28),o1 20 (.mv 29)]) (.cond 20 (.seq (.reg [o1 30 (.ld 20 true 7),o2 (.st 20 4 30),o1 5 (.mv (.const .slnil)),o1 6 (.mv (ci 50))]) .ret) .skip))))) (.seq (.reg [o1 31 (.faddr 17 7),o1 32 (.ld 1 false 31),o1 33 (.mv 1),o1 34 (.bin .add 32 33),o1 35 (.faddr 17 7),o2 (.st 1 35 34)]) (.seq (.regT [o1 37 (.ld 20 true 2),o1 38 (.call 21 [37]),o1 39 (.faddr 17 7),o1 40 (.ld 1 false 39),o1 41 (.call 42 [38,40]),o1 36 (.mv 41),o1 42 (.ext 36 0),o1 43 (.ext 36 1),o1 8 (.mv 42),o1 9 (.mv 43)] [(0,2),(1,2),(0,3),(1,3)]) (.seq (.reg [o1 44 (.mkfn (.func 43) [] [7]),o1 10 (.mv 44)]) (.seq (.seq (.reg [o1 45 (.mv 8),o1 46 (.len 45),o1 47 (.mv (ci 0))]) (.block 1 (.loop (.seq (.reg [o1 48 (.bin .lss 47 46)]) (.seq (.cond 48 .skip (.exit 1)) (.seq (.block 2 (.seq (.reg [o1 49 (.iaddr 1 45 47),o1 50 (.ld 1 false 49),o1 12 (.mv 50)]) (.reg [o1 51 (.mv 10),o1 52 (.mv 12),o1 53 (.callv 51 [52])]))) (.reg [o1 54 (.bin .add 47 (ci 1)),o1 47 (.mv 54)]))))))) (.seq (.reg [o1 55 (.ld 20 true 7),o1 56 (.mv 8),o2 (.st 20 4 55),o1 5 (.mv 56),o1 6 (.mv (ci 0))]) .ret)))))))),[(4,some (20,true)),(5,none),(6,none)]⟩
theorem x16:xf Tryz.prog 16=some F16:=by kernel_rfl
theorem con21 {s_lg s_th:Int} {s_pol s_wt:Int} {s_spin s_yld:Int} {s_single:Bool} {s_h s_t s_m:Int} {s_slots:List Slot} {s_sends s_recvs:List Int} {s_fe:Int} {s_fl:List Int} {s_ee:Int} {s_el:List Int} {s_now:Int} {s_thr:List Thread} {s_log:List Entry} (h1:s_slots.length≤100000) (h2:s_sends.length≤100000) (h3:s_recvs.length≤100000) (h4:s_fl.length≤100000) (h5:s_el.length≤100000) (h6:s_thr.length≤100000) (h7:s_log.length≤100000):Con Tryz.prog 21 [.agg [.int .i64 s_lg,.int .i64 s_th,.int .i64 s_pol,.int .i64 s_wt,.int .i64 s_spin,.int .i64 s_yld,.bool s_single,.int .i64 s_h,.int .i64 s_t,.int .i64 s_m,.slv 2 (s_slots.map encS),.slv 1 (s_sends.map encI),.slv 1 (s_recvs.map encI),.int .i64 s_fe,.slv 1 (s_fl.map encI),.int .i64 s_ee,.slv 1 (s_el.map encI),.int .i64 s_now,.slv 11 (s_thr.map encT),.slv 5 (s_log.map encE)]] (.slv 2 ((duesOf (State.mk (Config.mk s_lg s_th s_pol s_wt s_spin s_yld s_single) (Word.mk s_h s_t s_m) s_slots s_sends s_recvs (Event.mk s_fe s_fl) (Event.mk s_ee s_el) s_now s_thr s_log)).map encD),[],[]):=con21s (s:=(State.mk (Config.mk s_lg s_th s_pol s_wt s_spin s_yld s_single) (Word.mk s_h s_t s_m) s_slots s_sends s_recvs (Event.mk s_fe s_fl) (Event.mk s_ee s_el) s_now s_thr s_log)) ⟨h1,h2,h3,h4,h5,h6,h7⟩
theorem up5_2 (b r o:Nat):(upT 5 b).p 2 r o=.ptr 2 r o:=rfl
theorem up5_3 (b l:Nat):(upT 5 b).s 3 l=.slm 3 l:=rfl
theorem uq5_2 (b:Nat) (o:Option Blk):upP 5 b (2,o)=(2,o.map fun B=>B.tr (upT 5 b)):=rfl
theorem uq5_3 (b:Nat) (o:Option Blk):upP 5 b (3,o)=(3,o.map fun B=>B.tr (upT 5 b)):=rfl
theorem pt_now (s:State):(encZ s)[17]?=some (.int .i64 s.now):=rfl
theorem con16x {s:State} {n:Int} (h:Bd s 100000) (hck:fabCheck s=false):Con Tryz.prog 16 [.agg (encZ s),.int .i64 n] (.tup [.agg (encZ s),.slv 1 [],.int .i64 20],[],[]):=by
  have hb8:=h.mono (n:=100000000) (by omega)
  refine mcb_of_vc mix x16 (by simp [F16]) fun hw _=>?_
  clear hw h
  repeat' with_reducible first|refine gTn_of (fun h=>?_) (fun h=>?_)|refine gT_of (fun h=>?_) (fun h=>?_)|refine caseTn_of (fun h=>?_) (fun h=>?_)|refine caseT_of (fun h=>?_) (fun h=>?_)|refine FN ?_ ?_ ?_ ?_ rfl ?_|refine kv_ifn ?_ ?_|refine kv_if ?_ ?_|refine k_if ?_ ?_|refine IA ?_ ?_ ?_|refine L1 ?_ ?_|refine L2 ?_ ?_|refine L3 ?_ ?_ ?_ ?_|refine L4 ?_ ?_|refine L5 ?_ ?_ ?_ ?_ ?_|refine L6 ?_ ?_ ?_ ?_ ?_|refine AC.p0 (con41s ?_) ?_ (by simp -implicitDefEqProofs only [qU,pure_encZ]; done) ?_ ?_|refine AC.p0 (con18s ?_) ?_ (by simp -implicitDefEqProofs only [qU,pure_encZ]; done) ?_ ?_|simp -implicitDefEqProofs only [F16,qA,ld_0,ld_pv,st_0,splice,doEqs,qU,List.reduceReplicate,Nat.reduceAdd,Nat.reduceSub,Nat.reduceLeDiff,Nat.reduceEqDiff,Nat.reduceMul,reduceIte,reduceCtorEq,qI,Nat.reduceLT,Nat.reduceBEq,up_s,Int.toNat_natCast,encT,qZ,hck,pt_now,Int.reduceEq,Int.reduceNe, *]
  all_goals first
    | exact hb8
    | (constructor <;> omega)
    | exact Wk.refl _
    | exact Wk.tup ⟨Wk.refl _,fun h=>h,Wk.nil 1,fun _=>rfl,Wk.refl _,fun h=>h,trivial⟩
    | trace_state

theorem con16y {s:State} {n:Int} (h:Bd s 100000) (hck:fabCheck s=true) (hn:n<0):Con Tryz.prog 16 [.agg (encZ s),.int .i64 n] (.tup [.agg (encZ s),.slv 1 [],.int .i64 50],[],[]):=by
  have hb8:=h.mono (n:=100000000) (by omega)
  have hn0:(n<0)=True:=by simp [hn]
  refine mcb_of_vc mix x16 (by simp [F16]) fun hw _=>?_
  clear hw h
  repeat' with_reducible first|refine gTn_of (fun h=>?_) (fun h=>?_)|refine gT_of (fun h=>?_) (fun h=>?_)|refine caseTn_of (fun h=>?_) (fun h=>?_)|refine caseT_of (fun h=>?_) (fun h=>?_)|refine FN ?_ ?_ ?_ ?_ rfl ?_|refine kv_ifn ?_ ?_|refine kv_if ?_ ?_|refine k_if ?_ ?_|refine IA ?_ ?_ ?_|refine L1 ?_ ?_|refine L2 ?_ ?_|refine L3 ?_ ?_ ?_ ?_|refine L4 ?_ ?_|refine L5 ?_ ?_ ?_ ?_ ?_|refine L6 ?_ ?_ ?_ ?_ ?_|refine AC.p0 (con41s ?_) ?_ (by simp -implicitDefEqProofs only [qU,pure_encZ]; done) ?_ ?_|refine AC.p0 (con18s ?_) ?_ (by simp -implicitDefEqProofs only [qU,pure_encZ]; done) ?_ ?_|simp -implicitDefEqProofs only [F16,qA,ld_0,ld_pv,st_0,splice,doEqs,qU,List.reduceReplicate,Nat.reduceAdd,Nat.reduceSub,Nat.reduceLeDiff,Nat.reduceEqDiff,Nat.reduceMul,reduceIte,reduceCtorEq,qI,Nat.reduceLT,Nat.reduceBEq,up_s,Int.toNat_natCast,encT,qZ,hck,pt_now,Int.reduceEq,Int.reduceNe,hn0, *]
  all_goals first
    | exact hb8
    | (constructor <;> omega)
    | exact Wk.refl _
    | exact Wk.tup ⟨Wk.refl _,fun h=>h,Wk.nil 1,fun _=>rfl,Wk.refl _,fun h=>h,trivial⟩
    | trace_state

theorem con16z {s:State} {n:Int} (h:Bd s 100000) (hck:fabCheck s=true) (hn:¬ n<0) (hn2:n > 1099511627776 - s.now):Con Tryz.prog 16 [.agg (encZ s),.int .i64 n] (.tup [.agg (encZ s),.slv 1 [],.int .i64 50],[],[]):=by
  have hb8:=h.mono (n:=100000000) (by omega)
  have hnw:=now_ok hck
  have hws:IntKind.wrap .i64 (1099511627776 - s.now)=1099511627776 - s.now:=wrap64 (by omega) (by omega)
  have hn0:(n<0)=False:=by simp [hn]
  have hn1:(1099511627776 - s.now<n)=True:=by simp; omega
  clear hnw
  refine mcb_of_vc mix x16 (by simp [F16]) fun hw _=>?_
  clear hw h
  repeat' with_reducible first|refine gTn_of (fun h=>?_) (fun h=>?_)|refine gT_of (fun h=>?_) (fun h=>?_)|refine caseTn_of (fun h=>?_) (fun h=>?_)|refine caseT_of (fun h=>?_) (fun h=>?_)|refine FN ?_ ?_ ?_ ?_ rfl ?_|refine kv_ifn ?_ ?_|refine kv_if ?_ ?_|refine k_if ?_ ?_|refine IA ?_ ?_ ?_|refine L1 ?_ ?_|refine L2 ?_ ?_|refine L3 ?_ ?_ ?_ ?_|refine L4 ?_ ?_|refine L5 ?_ ?_ ?_ ?_ ?_|refine L6 ?_ ?_ ?_ ?_ ?_|refine AC.p0 (con41s ?_) ?_ (by simp -implicitDefEqProofs only [qU,pure_encZ]; done) ?_ ?_|refine AC.p0 (con18s ?_) ?_ (by simp -implicitDefEqProofs only [qU,pure_encZ]; done) ?_ ?_|simp -implicitDefEqProofs only [F16,qA,ld_0,ld_pv,st_0,splice,doEqs,qU,List.reduceReplicate,Nat.reduceAdd,Nat.reduceSub,Nat.reduceLeDiff,Nat.reduceEqDiff,Nat.reduceMul,reduceIte,reduceCtorEq,qI,Nat.reduceLT,Nat.reduceBEq,up_s,Int.toNat_natCast,encT,qZ,hck,pt_now,Int.reduceEq,Int.reduceNe,hn0,hn1,hws, *]
  all_goals first
    | exact hb8
    | (constructor <;> omega)
    | exact Wk.refl _
    | exact Wk.tup ⟨Wk.refl _,fun h=>h,Wk.nil 1,fun _=>rfl,Wk.refl _,fun h=>h,trivial⟩
    | trace_state

theorem late_call {st:State} {id:Int} {M:AM} {b:Nat} {κ:Ef→Prop} (hb:Bd st 100000000) (hid:0≤id∧id.toNat<st.threads.length) (hM:restM M (reachM M (pickN 1 (nmsL [.int .i64 id,.ptr 2 0 0]) []))=mT st) (h5:5≤b)
    (hk:κ (.tup [],inlU (mT st) (mR (tkLate st id)),[2,3])):AC Tryz.prog 43 [.int .i64 id,.ptr 2 0 0] M b κ:=by
  have hin:∀ s:State,inNs [2,3] (encX s (.slm 3 s.threads.length) (.slv 5 (s.log.map encE)))=true:=fun s=>by simp [encX,inNs,AV.inN,inNss_enc pure_encI,inNss_enc pure_encS,inNss_enc pure_encE]
  have hT:∀ g,g∈[2,3]→(upT 5 b).fixes g:=fun g hg=>by
    have:g=2∨g=3:=by simpa using hg
    rcases this with rfl | rfl <;> exact ⟨fun _ _=>rfl,fun _=>rfl,rfl⟩
  refine AC.mc 5 (con43s (s:=st) hb hid) (by omega) h5 hM rfl (by simp [mT]) ?_ rfl (by simp [mT,mR]) ?_
  · simp only [mT,List.all_cons,List.all_nil,List.map_cons,List.map_nil,Blk.inN,inNss,hin,inNss_enc pure_encT]; rfl
  · have e:∀ s:State,(Blk.rows 33 20 [encX s (.slm 3 s.threads.length) (.slv 5 (s.log.map encE))]).tr (upT 5 b)=.rows 33 20 [encX s (.slm 3 s.threads.length) (.slv 5 (s.log.map encE))]:=fun s=>by
      simp only [Blk.tr,trss]; rw [trs_inN hT _ (hin s)]
    have e2:∀ s:State,(Blk.rows 42 11 (s.threads.map encT)).tr (upT 5 b)=.rows 42 11 (s.threads.map encT):=fun s=>by
      simp only [Blk.tr]; rw [trss_enc _ pure_encT]
    have e3:(inlU (mT st) (mR (tkLate st id))).map (upP 5 b)=inlU (mT st) (mR (tkLate st id)):=by
      simp only [inlU,mT,mR,List.map_cons,List.map_nil,List.cons_append,List.nil_append,uq5_2,uq5_3,Option.map_some,Option.map_none,e,e2]
    rw [e3]
    exact hk
theorem con16k {s:State} {n:Int} (h:Bd s 100000) (hck:fabCheck s=true) (hn:¬ n<0) (hn2:¬ n > 1099511627776 - s.now):Con Tryz.prog 16 [.agg (encZ s),.int .i64 n] (.tup [.agg (encZ (tkFold (tkAt s (s.now+n)) (tkIds s n))),.slv 1 ((tkIds s n).map encI),.int .i64 0],[],[]):=by
  have hnw:=now_ok hck
  have hne:=thr_pos hck
  have hd16:=dues_16 s
  have hid:=ids_len s n
  have hws:IntKind.wrap .i64 (1099511627776 - s.now)=1099511627776 - s.now:=wrap64 (by omega) (by omega)
  have hwn:IntKind.wrap .i64 (s.now+n)=s.now+n:=wrap64 (by omega) (by omega)
  have hn0:(n<0)=False:=by simp [hn]
  have hn1:(1099511627776 - s.now<n)=False:=by simp; omega
  have hE:(dueLate (duesOf s) (s.now+n)).1=tkIds s n:=rfl
  have hmem:∀ i,i<(tkIds s n).length→0≤(tkIds s n).getD i default∧((tkIds s n).getD i default).toNat<s.threads.length:=fun i hi=>ids_mem (getD_mem hi)
  clear hnw hn hn2
  obtain ⟨⟨s_lg,s_th,s_pol,s_wt,s_spin,s_yld,s_single⟩,⟨s_h,s_t,s_m⟩,s_slots,s_sends,s_recvs,⟨s_fe,s_fl⟩,⟨s_ee,s_el⟩,s_now,s_thr,s_log⟩:=s
  obtain ⟨h1,h2,h3,h4,h5,h6,h7⟩:=h.all
  simp only [] at hne hws hwn hn1 hE hmem h1 h2 h3 h4 h5 h6 h7
  have hw0:fabWake (State.mk (Config.mk s_lg s_th s_pol s_wt s_spin s_yld s_single) (Word.mk s_h s_t s_m) s_slots s_sends s_recvs (Event.mk s_fe s_fl) (Event.mk s_ee s_el) s_now s_thr s_log) (-1)=(State.mk (Config.mk s_lg s_th s_pol s_wt s_spin s_yld s_single) (Word.mk s_h s_t s_m) s_slots s_sends s_recvs (Event.mk s_fe s_fl) (Event.mk s_ee s_el) s_now s_thr s_log):=wake_m1'
  have hb8:=h.mono (n:=100000000) (by omega)
  refine mcb_of_vc mix x16 (by simp [F16]) fun hw _=>?_
  clear hw
  unfold encZ encX
  repeat' with_reducible first|refine gTn_of (fun h=>?_) (fun h=>?_)|refine gT_of (fun h=>?_) (fun h=>?_)|refine caseTn_of (fun h=>?_) (fun h=>?_)|refine caseT_of (fun h=>?_) (fun h=>?_)|refine FN ?_ ?_ ?_ ?_ rfl ?_|refine kv_ifn ?_ ?_|refine kv_if ?_ ?_|refine k_if ?_ ?_|refine IA ?_ ?_ ?_|refine L1 ?_ ?_|refine L2 ?_ ?_|refine L3 ?_ ?_ ?_ ?_|refine L4 ?_ ?_|refine L5 ?_ ?_ ?_ ?_ ?_|refine L6 ?_ ?_ ?_ ?_ ?_|refine N1 (con41w ?_ ?_ ?_ ?_ ?_ ?_ ?_ hne) ?_ ?_|refine P0 (con18 ?_ ?_ ?_ ?_ ?_ ?_ ?_) ?_ ?_ ?_|refine P0 (con21 ?_ ?_ ?_ ?_ ?_ ?_ ?_) ?_ ?_ ?_|refine AC.p0 (con42 ?_) ?_ (by simp -implicitDefEqProofs only [qU,pures,AV.pure,puress_map pure_encD,Bool.and_true]; done) ?_ ?_|simp -implicitDefEqProofs only [F16,qA,ld_0,ld_pv,st_0,splice,doEqs,qU,List.reduceReplicate,Nat.reduceAdd,Nat.reduceSub,Nat.reduceLeDiff,Nat.reduceEqDiff,Nat.reduceMul,reduceIte,reduceCtorEq,qI,Nat.reduceLT,Nat.reduceBEq,up_s,Int.toNat_natCast,encT,pl_d,encX,encV,Int.lt_irrefl,lm_normal,lm_exit,lm_ret,Int.natCast_zero,up5_2,up5_3,uq5_2,uq5_3,mT,mR,Int.reduceEq,Int.reduceNe,nl_s,nl_0,hck,hwn,hws,hn0,hn1, *]
  all_goals first
    | refine lm_of 6 (fun i:Nat=>nl 4 (some (.ptr 4 0 0) :: nl 2 (some (.ptr 2 0 0) :: some (.slv 1 ((tkIds (State.mk (Config.mk s_lg s_th s_pol s_wt s_spin s_yld s_single) (Word.mk s_h s_t s_m) s_slots s_sends s_recvs (Event.mk s_fe s_fl) (Event.mk s_ee s_el) s_now s_thr s_log) n).map encI)) :: nl 1 (some (.fn (.func 43) [] [.ptr 2 0 0]) :: nl 34 (some (.slv 1 ((tkIds (State.mk (Config.mk s_lg s_th s_pol s_wt s_spin s_yld s_single) (Word.mk s_h s_t s_m) s_slots s_sends s_recvs (Event.mk s_fe s_fl) (Event.mk s_ee s_el) s_now s_thr s_log) n).map encI)) :: some (.int .i64 (tkIds (State.mk (Config.mk s_lg s_th s_pol s_wt s_spin s_yld s_single) (Word.mk s_h s_t s_m) s_slots s_sends s_recvs (Event.mk s_fe s_fl) (Event.mk s_ee s_el) s_now s_thr s_log) n).length) :: some (.int .i64 i) :: nl 9 []))))) (fun i=>[(4,.rows 33 20 [[(.int .i64 0),(.int .i64 0),(.int .i64 0),(.int .i64 0),(.int .i64 0),(.int .i64 0),(.bool false),(.int .i64 0),(.int .i64 0),(.int .i64 0),.slnil,.slnil,.slnil,(.int .i64 0),.slnil,(.int .i64 0),.slnil,(.int .i64 0),.slnil,.slnil]]),(3,.rows 42 11 ((tkFold (tkAt (State.mk (Config.mk s_lg s_th s_pol s_wt s_spin s_yld s_single) (Word.mk s_h s_t s_m) s_slots s_sends s_recvs (Event.mk s_fe s_fl) (Event.mk s_ee s_el) s_now s_thr s_log) (s_now+n)) ((tkIds (State.mk (Config.mk s_lg s_th s_pol s_wt s_spin s_yld s_single) (Word.mk s_h s_t s_m) s_slots s_sends s_recvs (Event.mk s_fe s_fl) (Event.mk s_ee s_el) s_now s_thr s_log) n).take i)).threads.map encT)),(2,.rows 33 20 [encX (tkFold (tkAt (State.mk (Config.mk s_lg s_th s_pol s_wt s_spin s_yld s_single) (Word.mk s_h s_t s_m) s_slots s_sends s_recvs (Event.mk s_fe s_fl) (Event.mk s_ee s_el) s_now s_thr s_log) (s_now+n)) ((tkIds (State.mk (Config.mk s_lg s_th s_pol s_wt s_spin s_yld s_single) (Word.mk s_h s_t s_m) s_slots s_sends s_recvs (Event.mk s_fe s_fl) (Event.mk s_ee s_el) s_now s_thr s_log) n).take i)) (.slm 3 (tkFold (tkAt (State.mk (Config.mk s_lg s_th s_pol s_wt s_spin s_yld s_single) (Word.mk s_h s_t s_m) s_slots s_sends s_recvs (Event.mk s_fe s_fl) (Event.mk s_ee s_el) s_now s_thr s_log) (s_now+n)) ((tkIds (State.mk (Config.mk s_lg s_th s_pol s_wt s_spin s_yld s_single) (Word.mk s_h s_t s_m) s_slots s_sends s_recvs (Event.mk s_fe s_fl) (Event.mk s_ee s_el) s_now s_thr s_log) n).take i)).threads.length) (.slv 5 ((tkFold (tkAt (State.mk (Config.mk s_lg s_th s_pol s_wt s_spin s_yld s_single) (Word.mk s_h s_t s_m) s_slots s_sends s_recvs (Event.mk s_fe s_fl) (Event.mk s_ee s_el) s_now s_thr s_log) (s_now+n)) ((tkIds (State.mk (Config.mk s_lg s_th s_pol s_wt s_spin s_yld s_single) (Word.mk s_h s_t s_m) s_slots s_sends s_recvs (Event.mk s_fe s_fl) (Event.mk s_ee s_el) s_now s_thr s_log) n).take i)).log.map encE))])]) (fun i=>i≤(tkIds (State.mk (Config.mk s_lg s_th s_pol s_wt s_spin s_yld s_single) (Word.mk s_h s_t s_m) s_slots s_sends s_recvs (Event.mk s_fe s_fl) (Event.mk s_ee s_el) s_now s_thr s_log) n).length) (fun i=>(tkIds (State.mk (Config.mk s_lg s_th s_pol s_wt s_spin s_yld s_single) (Word.mk s_h s_t s_m) s_slots s_sends s_recvs (Event.mk s_fe s_fl) (Event.mk s_ee s_el) s_now s_thr s_log) n).length - i) [] [(97,2),(81,3),(17,4)] 0 (by omega) ?_ ?_ ?_ ?_ ?_ ?_
    | omega
    | trace_state
  rotate_right
  · intro i hi
    have hbI:Bd (tkFold (tkAt (State.mk (Config.mk s_lg s_th s_pol s_wt s_spin s_yld s_single) (Word.mk s_h s_t s_m) s_slots s_sends s_recvs (Event.mk s_fe s_fl) (Event.mk s_ee s_el) s_now s_thr s_log) (s_now+n)) ((tkIds (State.mk (Config.mk s_lg s_th s_pol s_wt s_spin s_yld s_single) (Word.mk s_h s_t s_m) s_slots s_sends s_recvs (Event.mk s_fe s_fl) (Event.mk s_ee s_el) s_now s_thr s_log) n).take i)) 100000000:=fold_bd _ hb8
    have hlI:(tkFold (tkAt (State.mk (Config.mk s_lg s_th s_pol s_wt s_spin s_yld s_single) (Word.mk s_h s_t s_m) s_slots s_sends s_recvs (Event.mk s_fe s_fl) (Event.mk s_ee s_el) s_now s_thr s_log) (s_now+n)) ((tkIds (State.mk (Config.mk s_lg s_th s_pol s_wt s_spin s_yld s_single) (Word.mk s_h s_t s_m) s_slots s_sends s_recvs (Event.mk s_fe s_fl) (Event.mk s_ee s_el) s_now s_thr s_log) n).take i)).threads.length=s_thr.length:=fold_len _ _
    have hbJ:=hbI.all
    clear hE hd16 hck hwn hws hn0 hn1 hw0
    simp only [all_some,all_none,all_nil,nl_s,nl_0]
    intros
    rcases Nat.lt_or_eq_of_le hi with hlt | heq
    · have hd:((i:Int)<((tkIds (State.mk (Config.mk s_lg s_th s_pol s_wt s_spin s_yld s_single) (Word.mk s_h s_t s_m) s_slots s_sends s_recvs (Event.mk s_fe s_fl) (Event.mk s_ee s_el) s_now s_thr s_log) n).length:Int))=True:=by simp; omega
      have hS:(tkFold (tkAt (State.mk (Config.mk s_lg s_th s_pol s_wt s_spin s_yld s_single) (Word.mk s_h s_t s_m) s_slots s_sends s_recvs (Event.mk s_fe s_fl) (Event.mk s_ee s_el) s_now s_thr s_log) (s_now+n)) ((tkIds (State.mk (Config.mk s_lg s_th s_pol s_wt s_spin s_yld s_single) (Word.mk s_h s_t s_m) s_slots s_sends s_recvs (Event.mk s_fe s_fl) (Event.mk s_ee s_el) s_now s_thr s_log) n).take (i+1)))=tkLate (tkFold (tkAt (State.mk (Config.mk s_lg s_th s_pol s_wt s_spin s_yld s_single) (Word.mk s_h s_t s_m) s_slots s_sends s_recvs (Event.mk s_fe s_fl) (Event.mk s_ee s_el) s_now s_thr s_log) (s_now+n)) ((tkIds (State.mk (Config.mk s_lg s_th s_pol s_wt s_spin s_yld s_single) (Word.mk s_h s_t s_m) s_slots s_sends s_recvs (Event.mk s_fe s_fl) (Event.mk s_ee s_el) s_now s_thr s_log) n).take i)) ((tkIds (State.mk (Config.mk s_lg s_th s_pol s_wt s_spin s_yld s_single) (Word.mk s_h s_t s_m) s_slots s_sends s_recvs (Event.mk s_fe s_fl) (Event.mk s_ee s_el) s_now s_thr s_log) n).getD i default):=tk_take hlt
      have hwi:IntKind.wrap .i64 ((i:Int)+1)=((i+1:Nat):Int):=by rw [wrap64 (by omega) (by omega)]; omega
      have hid2:=hmem i hlt
      clear hmem
      repeat' with_reducible first|refine gTn_of (fun h=>?_) (fun h=>?_)|refine gT_of (fun h=>?_) (fun h=>?_)|refine caseTn_of (fun h=>?_) (fun h=>?_)|refine caseT_of (fun h=>?_) (fun h=>?_)|refine FN ?_ ?_ ?_ ?_ rfl ?_|refine kv_ifn ?_ ?_|refine kv_if ?_ ?_|refine k_if ?_ ?_|refine IA ?_ ?_ ?_|refine L1 ?_ ?_|refine L2 ?_ ?_|refine L3 ?_ ?_ ?_ ?_|refine L4 ?_ ?_|refine L5 ?_ ?_ ?_ ?_ ?_|refine L6 ?_ ?_ ?_ ?_ ?_|refine ia_of (d:=default) ?_ ?_|refine late_call (st:=(tkFold (tkAt (State.mk (Config.mk s_lg s_th s_pol s_wt s_spin s_yld s_single) (Word.mk s_h s_t s_m) s_slots s_sends s_recvs (Event.mk s_fe s_fl) (Event.mk s_ee s_el) s_now s_thr s_log) (s_now+n)) ((tkIds (State.mk (Config.mk s_lg s_th s_pol s_wt s_spin s_yld s_single) (Word.mk s_h s_t s_m) s_slots s_sends s_recvs (Event.mk s_fe s_fl) (Event.mk s_ee s_el) s_now s_thr s_log) n).take i))) ?_ ?_ ?_ ?_ ?_|refine rm_of [] [(2,2),(3,3),(4,4)] (i+1) ?_ ?_ ?_ ?_ ?_ ?_|simp -implicitDefEqProofs only [F16,qA,ld_0,ld_pv,st_0,splice,doEqs,qU,List.reduceReplicate,Nat.reduceAdd,Nat.reduceSub,Nat.reduceLeDiff,Nat.reduceEqDiff,Nat.reduceMul,reduceIte,reduceCtorEq,qI,Nat.reduceLT,Nat.reduceBEq,up_s,Int.toNat_natCast,encT,pl_d,encX,encV,Int.lt_irrefl,lm_normal,lm_exit,lm_ret,Int.natCast_zero,up5_2,up5_3,uq5_2,uq5_3,mT,mR,Int.reduceEq,Int.reduceNe,nl_s,nl_0,encI,qM, *]
      all_goals first
        | omega
        | exact hbI
        | exact ⟨hid2.1,by rw [hlI]; exact hid2.2⟩
        | exact ⟨by omega,by omega⟩
        | trace_state
    · have hd:((i:Int)<((tkIds (State.mk (Config.mk s_lg s_th s_pol s_wt s_spin s_yld s_single) (Word.mk s_h s_t s_m) s_slots s_sends s_recvs (Event.mk s_fe s_fl) (Event.mk s_ee s_el) s_now s_thr s_log) n).length:Int))=False:=by simp; omega
      have hT:(tkIds (State.mk (Config.mk s_lg s_th s_pol s_wt s_spin s_yld s_single) (Word.mk s_h s_t s_m) s_slots s_sends s_recvs (Event.mk s_fe s_fl) (Event.mk s_ee s_el) s_now s_thr s_log) n).take i=tkIds (State.mk (Config.mk s_lg s_th s_pol s_wt s_spin s_yld s_single) (Word.mk s_h s_t s_m) s_slots s_sends s_recvs (Event.mk s_fe s_fl) (Event.mk s_ee s_el) s_now s_thr s_log) n:=List.take_of_length_le (by omega)
      rw [hT] at *
      clear heq hT hmem
      repeat' with_reducible first|refine gTn_of (fun h=>?_) (fun h=>?_)|refine gT_of (fun h=>?_) (fun h=>?_)|refine caseTn_of (fun h=>?_) (fun h=>?_)|refine caseT_of (fun h=>?_) (fun h=>?_)|refine FN ?_ ?_ ?_ ?_ rfl ?_|refine kv_ifn ?_ ?_|refine kv_if ?_ ?_|refine k_if ?_ ?_|refine IA ?_ ?_ ?_|refine L1 ?_ ?_|refine L2 ?_ ?_|refine L3 ?_ ?_ ?_ ?_|refine L4 ?_ ?_|refine L5 ?_ ?_ ?_ ?_ ?_|refine L6 ?_ ?_ ?_ ?_ ?_|simp -implicitDefEqProofs only [F16,qA,ld_0,ld_pv,st_0,splice,doEqs,qU,List.reduceReplicate,Nat.reduceAdd,Nat.reduceSub,Nat.reduceLeDiff,Nat.reduceEqDiff,Nat.reduceMul,reduceIte,reduceCtorEq,qI,Nat.reduceLT,Nat.reduceBEq,up_s,Int.toNat_natCast,encT,pl_d,encX,encV,Int.lt_irrefl,lm_normal,lm_exit,lm_ret,Int.natCast_zero,up5_2,up5_3,uq5_2,uq5_3,mT,mR,Int.reduceEq,Int.reduceNe,nl_s,nl_0, *]
      all_goals first
        | exact Wk.refl _
        | (rw [List.take_of_length_le (by simp)]; exact Wk.refl _)
        | trace_state
  all_goals first
    | omega
    | (simp only [List.take_zero,tkFold,List.foldl_nil,tkAt,encX]; (simp -implicitDefEqProofs only [qA,ld_0,ld_pv,st_0,splice,doEqs,qU,List.reduceReplicate,Nat.reduceAdd,Nat.reduceSub,Nat.reduceLeDiff,Nat.reduceEqDiff,Nat.reduceMul,reduceIte,reduceCtorEq,qI,Nat.reduceLT,Nat.reduceBEq,qZ,nl_s,nl_0]; first | done | (simp; done)))
    | (simp -implicitDefEqProofs only [qA,ld_0,ld_pv,st_0,splice,doEqs,qU,List.reduceReplicate,Nat.reduceAdd,Nat.reduceSub,Nat.reduceLeDiff,Nat.reduceEqDiff,Nat.reduceMul,reduceIte,reduceCtorEq,qI,Nat.reduceLT,Nat.reduceBEq,qZ,nl_s,nl_0]; first | done | (simp; done))
    | (simp only [List.take_zero,tkFold,List.foldl_nil,tkAt,encX]; (simp -implicitDefEqProofs only [qA,ld_0,ld_pv,st_0,splice,doEqs,qU,List.reduceReplicate,Nat.reduceAdd,Nat.reduceSub,Nat.reduceLeDiff,Nat.reduceEqDiff,Nat.reduceMul,reduceIte,reduceCtorEq,qI,Nat.reduceLT,Nat.reduceBEq,qZ,nl_s,nl_0]; trace_state))
    | trace_state

end Go.Sak
