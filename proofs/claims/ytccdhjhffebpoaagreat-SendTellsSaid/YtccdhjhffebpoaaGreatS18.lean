/- Part S18 of the proofs about the program: K15, K16. Conditions: none. -/
import Derived.Test.YtccdhjhffebpoaaGreatS16
import Derived.Test.YtccdhjhffebpoaaGreatS04
import Derived.Test.YtccdhjhffebpoaaGreatProg
import Derived.KernelRfl
namespace Go.Sak
open Go Go.RowKit Go.Proofs
set_option linter.unusedVariables false
set_option linter.unusedSimpArgs false
set_option maxRecDepth 10000
set_option maxHeartbeats 8000000
def F126:AFn:=⟨36,(.seq (.reg [o1 1 (.box 33 0),o1 2 (.alloc 33 [(.int .i64 0),(.int .i64 0),(.int .i64 0),(.int .i64 0),(.int .i64 0),(.int .i64 0),(.bool false),(.int .i64 0),(.int .i64 0),(.int .i64 0),.slnil,.slnil,.slnil,(.int .i64 0),.slnil,(.int .i64 0),.slnil,(.int .i64 0),.slnil,.slnil])]) (.seq (.regT [o1 3 (.faddr 10 1),o1 4 (.ld 1 false 3),o1 5 (.call 224 [4]),o1 6 (.faddr 11 1),o1 7 (.ld 1 false 6),o1 8 (.call 225 [7]),o1 9 (.faddr 12 1),o1 10 (.ld 1 false 9),o1 11 (.call 225 [10]),o1 12 (.faddr 10 1),o2 (.st 1 12 5),o1 13 (.faddr 11 1),o2 (.st 1 13 8),o1 14 (.faddr 12 1),o2 (.st 1 14 11)] [(0,3),(1,3),(2,3),(0,4),(1,4),(2,4),(0,6),(1,6),(2,6),(3,6),(4,6),(5,6),(0,7),(1,7),(2,7),(3,7),(4,7),(5,7),(5,9),(8,9)]) (.seq (.regT [o1 15 (.faddr 13 1),o1 16 (.faddr 1 15),o1 17 (.ld 1 false 16),o1 18 (.call 225 [17]),o1 19 (.faddr 15 1),o1 20 (.faddr 1 19),o1 21 (.ld 1 false 20),o1 22 (.call 225 [21]),o1 23 (.faddr 13 1),o1 24 (.faddr 1 23),o2 (.st 1 24 18),o1 25 (.faddr 15 1),o1 26 (.faddr 1 25),o2 (.st 1 26 22)] [(0,4),(1,4),(2,4),(3,4),(0,5),(1,5),(2,5),(3,5),(0,6),(1,6),(2,6),(3,6),(7,8),(7,9)]) (.seq (.regT [o1 27 (.faddr 18 1),o1 28 (.ld 1 false 27),o1 29 (.call 226 [28]),o1 30 (.faddr 19 1),o1 31 (.ld 1 false 30),o1 32 (.call 227 [31]),o1 33 (.faddr 18 1),o2 (.st 1 33 29),o1 34 (.faddr 19 1),o2 (.st 1 34 32)] [(0,3),(1,3),(2,3),(0,4),(1,4),(2,4),(5,6)]) (.seq (.reg [o1 35 (.ld 20 true 1),o2 (.st 20 2 35)]) .ret))))),[(2,some (20,true))]⟩
theorem x126:xf Tryz.prog 126=some F126:=by kernel_rfl
theorem lf126:F126.code.lf=true:=rfl
def F127:AFn:=⟨30,(.seq (.reg [o1 3 (.box 33 0),o1 6 (.alloc 33 [(.int .i64 0),(.int .i64 0),(.int .i64 0),(.int .i64 0),(.int .i64 0),(.int .i64 0),(.bool false),(.int .i64 0),(.int .i64 0),(.int .i64 0),.slnil,.slnil,.slnil,(.int .i64 0),.slnil,(.int .i64 0),.slnil,(.int .i64 0),.slnil,.slnil])]) (.seq (.reg [o1 8 (.ld 20 true 3),o1 9 (.call 126 [8]),o1 7 (.alloc 33 [(.int .i64 0),(.int .i64 0),(.int .i64 0),(.int .i64 0),(.int .i64 0),(.int .i64 0),(.bool false),(.int .i64 0),(.int .i64 0),(.int .i64 0),.slnil,.slnil,.slnil,(.int .i64 0),.slnil,(.int .i64 0),.slnil,(.int .i64 0),.slnil,.slnil]),o2 (.st 20 7 9)]) (.seq (.seq (.reg [o1 10 (.ld 20 true 3),o1 11 (.call 33 [10]),o1 12 (.mv 11),o3 13 (.mv 1) 12,o3 14 (.bin .geq 13 (ci 0)) 12,o1 15 (.pick 12 14 (.const (.bool false))),o1 16 (.mv 15),o3 17 (.mv 1) 16,o3 18 (.faddr 18 3) 16,o3 19 (.ld 1 false 18) 16,o3 20 (.len 19) 16,o3 21 (.bin .lss 17 20) 16,o1 22 (.pick 16 21 (.const (.bool false)))]) (.cond 22 (.reg [o1 23 (.mv 2),o1 24 (.faddr 18 7),o1 25 (.ld 1 false 24),o1 26 (.mv 1),o1 27 (.iaddr 11 25 26),o1 28 (.callv 23 [27])]) .skip)) (.seq (.reg [o1 29 (.ld 20 true 7),o2 (.st 20 6 29)]) .ret)))),[(6,some (20,true))]⟩
theorem x127:xf Tryz.prog 127=some F127:=by kernel_rfl
theorem lf127:F127.code.lf=true:=rfl
def F132:AFn:=⟨8,(.reg [o1 2 (.mv 0),o1 3 (.mv 0),o1 4 (.nilchk 3),o1 5 (.ld 11 true 4),o1 6 (.call 102 [5]),o1 7 (.nilchk 2),o2 (.st 11 7 6)]),[]⟩
theorem x132:xf Tryz.prog 132=some F132:=by kernel_rfl
theorem lf132:F132.code.lf=true:=rfl
def F50:AFn:=⟨8,(.seq (.reg [o1 2 (.box 33 0),o1 4 (.alloc 33 [(.int .i64 0),(.int .i64 0),(.int .i64 0),(.int .i64 0),(.int .i64 0),(.int .i64 0),(.bool false),(.int .i64 0),(.int .i64 0),(.int .i64 0),.slnil,.slnil,.slnil,(.int .i64 0),.slnil,(.int .i64 0),.slnil,(.int .i64 0),.slnil,.slnil])]) (.seq (.reg [o1 5 (.ld 20 true 2),o1 6 (.mv 1),o1 7 (.call 127 [5,6,(.func 132)]),o2 (.st 20 4 7)]) .ret)),[(4,some (20,true))]⟩
theorem x50:xf Tryz.prog 50=some F50:=by kernel_rfl
theorem con50 {s_lg s_th:Int} {s_pol s_wt:Int} {s_spin s_yld:Int} {s_single:Bool} {s_h s_t s_m:Int} {s_slots:List Slot} {s_sends s_recvs:List Int} {s_fe:Int} {s_fl:List Int} {s_ee:Int} {s_el:List Int} {s_now:Int} {s_thr:List Thread} {s_log:List Entry} {id:Int} (h1:s_slots.length≤100000000) (h2:s_sends.length≤100000000) (h3:s_recvs.length≤100000000) (h4:s_fl.length≤100000000) (h5:s_el.length≤100000000) (h6:s_thr.length≤100000000) (h7:s_log.length≤100000000):Con Tryz.prog 50 [.agg [.int .i64 s_lg,.int .i64 s_th,.int .i64 s_pol,.int .i64 s_wt,.int .i64 s_spin,.int .i64 s_yld,.bool s_single,.int .i64 s_h,.int .i64 s_t,.int .i64 s_m,.slv 2 (s_slots.map encS),.slv 1 (s_sends.map encI),.slv 1 (s_recvs.map encI),.int .i64 s_fe,.slv 1 (s_fl.map encI),.int .i64 s_ee,.slv 1 (s_el.map encI),.int .i64 s_now,.slv 11 (s_thr.map encT),.slv 5 (s_log.map encE)],.int .i64 id] (.agg (encZ (fabWake (State.mk (Config.mk s_lg s_th s_pol s_wt s_spin s_yld s_single) (Word.mk s_h s_t s_m) s_slots s_sends s_recvs (Event.mk s_fe s_fl) (Event.mk s_ee s_el) s_now s_thr s_log) id)),[],[]):=by
  by_cases hI:fabIs (State.mk (Config.mk s_lg s_th s_pol s_wt s_spin s_yld s_single) (Word.mk s_h s_t s_m) s_slots s_sends s_recvs (Event.mk s_fe s_fl) (Event.mk s_ee s_el) s_now s_thr s_log) id=true
  · rw [show fabWake (State.mk (Config.mk s_lg s_th s_pol s_wt s_spin s_yld s_single) (Word.mk s_h s_t s_m) s_slots s_sends s_recvs (Event.mk s_fe s_fl) (Event.mk s_ee s_el) s_now s_thr s_log) id=put1 (State.mk (Config.mk s_lg s_th s_pol s_wt s_spin s_yld s_single) (Word.mk s_h s_t s_m) s_slots s_sends s_recvs (Event.mk s_fe s_fl) (Event.mk s_ee s_el) s_now s_thr s_log) id (tWake (me (State.mk (Config.mk s_lg s_th s_pol s_wt s_spin s_yld s_single) (Word.mk s_h s_t s_m) s_slots s_sends s_recvs (Event.mk s_fe s_fl) (Event.mk s_ee s_el) s_now s_thr s_log) id)) from if_pos hI]
    have hI':=hI
    simp only [fabIs,Bool.and_eq_true,decide_eq_true_eq] at hI'
    obtain ⟨⟨hchk,hge⟩,hlt⟩:=hI'
    have hne:s_thr≠[]:=by intro h; subst h; simp at hlt; omega
    clear hI
    refine mcb_of_vc mix x50 (by simp [F50]) fun hw _=>?_
    clear hw
    repeat' with_reducible first|refine gTn_of (fun h=>?_) (fun h=>?_)|refine gT_of (fun h=>?_) (fun h=>?_)|refine caseTn_of (fun h=>?_) (fun h=>?_)|refine caseT_of (fun h=>?_) (fun h=>?_)|refine FN ?_ ?_ ?_ ?_ rfl ?_|refine kv_ifn ?_ ?_|refine kv_if ?_ ?_|refine k_if ?_ ?_|refine I0 mix x127 lf127 ?_ ?_ ?_ ?_ ?_|refine I0 mix x126 lf126 ?_ ?_ ?_ ?_ ?_|refine I0 mix x132 lf132 ?_ ?_ ?_ ?_ ?_|refine IA ?_ ?_ ?_|refine L1 ?_ ?_|refine L2 ?_ ?_|refine L3 ?_ ?_ ?_ ?_|refine L4 ?_ ?_|refine L5 ?_ ?_ ?_ ?_ ?_|refine L6 ?_ ?_ ?_ ?_ ?_|refine P0 (con33 ?_ ?_ ?_ ?_ ?_ ?_ ?_) ?_ ?_ ?_|refine N1 (con226g hne ?_) ?_ ?_|refine P0 (con225 ?_) ?_ ?_ ?_|refine ACV.of (con225 ?_) ?_ ?_ ?_|refine ACK.of (con225 ?_) ?_ ?_|refine P0 (con224 ?_) ?_ ?_ ?_|refine ACV.of (con224 ?_) ?_ ?_ ?_|refine ACK.of (con224 ?_) ?_ ?_|refine P0 (con227 ?_) ?_ ?_ ?_|refine ACV.of (con227 ?_) ?_ ?_ ?_|refine ACK.of (con227 ?_) ?_ ?_|refine P0 (con102) ?_ ?_ ?_|refine ACV.of (con102) ?_ ?_ ?_|refine ACK.of (con102) ?_ ?_|simp -implicitDefEqProofs only [F50,qA,ld_0,ld_pv,st_0,splice,doEqs,qU,List.reduceReplicate,Nat.reduceAdd,Nat.reduceSub,Nat.reduceLeDiff,Nat.reduceEqDiff,Nat.reduceMul,reduceIte,reduceCtorEq,qI,Nat.reduceLT,Nat.reduceBEq,F127,F126,F132,up_s,Int.toNat_natCast,encT, *]
    all_goals first
      | omega
      | (constructor <;> omega)
      | exact Wk.refl _
      | trace_state
  · rw [show fabWake (State.mk (Config.mk s_lg s_th s_pol s_wt s_spin s_yld s_single) (Word.mk s_h s_t s_m) s_slots s_sends s_recvs (Event.mk s_fe s_fl) (Event.mk s_ee s_el) s_now s_thr s_log) id=(State.mk (Config.mk s_lg s_th s_pol s_wt s_spin s_yld s_single) (Word.mk s_h s_t s_m) s_slots s_sends s_recvs (Event.mk s_fe s_fl) (Event.mk s_ee s_el) s_now s_thr s_log) from if_neg hI]
    have hI':fabCheck (State.mk (Config.mk s_lg s_th s_pol s_wt s_spin s_yld s_single) (Word.mk s_h s_t s_m) s_slots s_sends s_recvs (Event.mk s_fe s_fl) (Event.mk s_ee s_el) s_now s_thr s_log)=false∨¬ id≥0∨¬ id<s_thr.length:=by
      simp only [fabIs,Bool.and_eq_true,decide_eq_true_eq] at hI
      by_cases h1:fabCheck (State.mk (Config.mk s_lg s_th s_pol s_wt s_spin s_yld s_single) (Word.mk s_h s_t s_m) s_slots s_sends s_recvs (Event.mk s_fe s_fl) (Event.mk s_ee s_el) s_now s_thr s_log)=true
      · by_cases h2:id≥0
        · exact .inr (.inr fun h3=>hI ⟨⟨h1,h2⟩,h3⟩)
        · exact .inr (.inl h2)
      · exact .inl (by simpa using h1)
    clear hI
    rcases hI' with hI' | hI' | hI'
    all_goals refine mcb_of_vc mix x50 (by simp [F50]) fun hw _=>?_
    all_goals clear hw
    all_goals
      repeat' with_reducible first|refine gTn_of (fun h=>?_) (fun h=>?_)|refine gT_of (fun h=>?_) (fun h=>?_)|refine caseTn_of (fun h=>?_) (fun h=>?_)|refine caseT_of (fun h=>?_) (fun h=>?_)|refine FN ?_ ?_ ?_ ?_ rfl ?_|refine kv_ifn ?_ ?_|refine kv_if ?_ ?_|refine k_if ?_ ?_|refine I0 mix x127 lf127 ?_ ?_ ?_ ?_ ?_|refine I0 mix x126 lf126 ?_ ?_ ?_ ?_ ?_|refine I0 mix x132 lf132 ?_ ?_ ?_ ?_ ?_|refine IA ?_ ?_ ?_|refine L1 ?_ ?_|refine L2 ?_ ?_|refine L3 ?_ ?_ ?_ ?_|refine L4 ?_ ?_|refine L5 ?_ ?_ ?_ ?_ ?_|refine L6 ?_ ?_ ?_ ?_ ?_|refine P0 (con33 ?_ ?_ ?_ ?_ ?_ ?_ ?_) ?_ ?_ ?_|refine P0 (con225 ?_) ?_ ?_ ?_|refine ACV.of (con225 ?_) ?_ ?_ ?_|refine ACK.of (con225 ?_) ?_ ?_|refine P0 (con224 ?_) ?_ ?_ ?_|refine ACV.of (con224 ?_) ?_ ?_ ?_|refine ACK.of (con224 ?_) ?_ ?_|refine P0 (con227 ?_) ?_ ?_ ?_|refine ACV.of (con227 ?_) ?_ ?_ ?_|refine ACK.of (con227 ?_) ?_ ?_|refine P0 (con226 ?_) ?_ ?_ ?_|refine ACV.of (con226 ?_) ?_ ?_ ?_|refine ACK.of (con226 ?_) ?_ ?_|simp -implicitDefEqProofs only [F50,qA,ld_0,ld_pv,st_0,splice,doEqs,qU,List.reduceReplicate,Nat.reduceAdd,Nat.reduceSub,Nat.reduceLeDiff,Nat.reduceEqDiff,Nat.reduceMul,reduceIte,reduceCtorEq,qI,Nat.reduceLT,Nat.reduceBEq,F127,F126,F132,up_s,Int.toNat_natCast,encT, *]
    all_goals first
      | omega
      | exact Wk.refl _
      | trace_state

section
variable {P:Program} {m:AM} {b:Nat}
theorem fin_tl {v:AV} {e:Ef} {t l:Nat} (h:pickN 1 v.nms []=[t,l]) (h1:stOk 1 16 [l] [(t,1)] m=true) (hz:zPure m [l]=true) (hw:v.tr (stT 1 16 [l] [(t,1)] m)=e.1) (hm:stM 1 16 [l] [(t,1)] (stT 1 16 [l] [(t,1)] m) m=AM.upd [] e.2.1):FinS 1 [] e v m b :=
  fin_new [l] [(t,1)] h1 hz hw (by rw [hm])
theorem fin_t {v:AV} {e:Ef} {t:Nat} (h:pickN 1 v.nms []=[t]) (h1:stOk 1 16 [] [(t,1)] m=true) (hw:v.tr (stT 1 16 [] [(t,1)] m)=e.1) (hm:stM 1 16 [] [(t,1)] (stT 1 16 [] [(t,1)] m) m=AM.upd [] e.2.1):FinS 1 [] e v m b :=
  fin_new [] [(t,1)] h1 rfl hw (by rw [hm])
theorem wk_log {x y:AV} (h:Wk x y) (h1:x.one=true→y.one=true) {c0 c1 c2 c3 c4 c5 c6 c7 c8 c9 c10 c11 c12 c13 c14 c15 c16 c17 c18:AV}:Wk (.agg [c0,c1,c2,c3,c4,c5,c6,c7,c8,c9,c10,c11,c12,c13,c14,c15,c16,c17,c18,x]) (.agg [c0,c1,c2,c3,c4,c5,c6,c7,c8,c9,c10,c11,c12,c13,c14,c15,c16,c17,c18,y]):=by
  refine Wk.agg ?_
  simp only [Wks]
  exact ⟨Wk.refl _,id,Wk.refl _,id,Wk.refl _,id,Wk.refl _,id,Wk.refl _,id,Wk.refl _,id,Wk.refl _,id,Wk.refl _,id,Wk.refl _,id,Wk.refl _,id,Wk.refl _,id,Wk.refl _,id,Wk.refl _,id,Wk.refl _,id,Wk.refl _,id,Wk.refl _,id,Wk.refl _,id,Wk.refl _,id,Wk.refl _,id,h,h1,trivial⟩
theorem con_wk {f:FuncId} {x y:AV} {xs:List AV} {e:Ef} (hw:Wk x y) (h:Con P f (y :: xs) e):Con P f (x :: xs) e:=by
  refine ⟨h.1,fun c hc hm hU vs hvs=>h.2 c hc hm hU vs ⟨by simpa using hvs.1,fun i z hi=>?_⟩⟩
  cases i with
  | zero=>simp at hi; subst hi; exact hw _ _ (hvs.2 0 _ rfl)
  | succ i=>exact hvs.2 (i+1) z (by simpa using hi)
theorem con_l0 {f:FuncId} {xs:List AV} {e:Ef} {c0 c1 c2 c3 c4 c5 c6 c7 c8 c9 c10 c11 c12 c13 c14 c15 c16 c17 c18:AV} (h:Con P f (.agg [c0,c1,c2,c3,c4,c5,c6,c7,c8,c9,c10,c11,c12,c13,c14,c15,c16,c17,c18,.slv 5 (([]:List Entry).map encE)] :: xs) e):Con P f (.agg [c0,c1,c2,c3,c4,c5,c6,c7,c8,c9,c10,c11,c12,c13,c14,c15,c16,c17,c18,.slnil] :: xs) e:=con_wk (wk_log (Wk.nil 5) id) h
theorem con_le {f:FuncId} {xs:List AV} {e:Ef} {c0 c1 c2 c3 c4 c5 c6 c7 c8 c9 c10 c11 c12 c13 c14 c15 c16 c17 c18:AV} (h:Con P f (.agg [c0,c1,c2,c3,c4,c5,c6,c7,c8,c9,c10,c11,c12,c13,c14,c15,c16,c17,c18,.slv 5 (([]:List Entry).map encE)] :: xs) e):Con P f (.agg [c0,c1,c2,c3,c4,c5,c6,c7,c8,c9,c10,c11,c12,c13,c14,c15,c16,c17,c18,.sle 5] :: xs) e:=con_wk (wk_log (Wk.sle 5) id) h
theorem con_lc {f:FuncId} {xs:List AV} {e:Ef} {c0 c1 c2 c3 c4 c5 c6 c7 c8 c9 c10 c11 c12 c13 c14 c15 c16 c17 c18:AV} (h1:Con P f (.agg [c0,c1,c2,c3,c4,c5,c6,c7,c8,c9,c10,c11,c12,c13,c14,c15,c16,c17,c18,.slnil] :: xs) e) (h2:Con P f (.agg [c0,c1,c2,c3,c4,c5,c6,c7,c8,c9,c10,c11,c12,c13,c14,c15,c16,c17,c18,.sle 5] :: xs) e):Con P f (.agg [c0,c1,c2,c3,c4,c5,c6,c7,c8,c9,c10,c11,c12,c13,c14,c15,c16,c17,c18,.slv 5 (([]:List Entry).map encE)] :: xs) e :=
  con_nila (pre:=[c0,c1,c2,c3,c4,c5,c6,c7,c8,c9,c10,c11,c12,c13,c14,c15,c16,c17,c18]) (post:=[]) h1 h2
end
theorem con50m {s_lg s_th:Int} {s_pol s_wt:Int} {s_spin s_yld:Int} {s_single:Bool} {s_h s_t s_m:Int} {s_slots:List Slot} {s_sends s_recvs:List Int} {s_fe:Int} {s_fl:List Int} {s_ee:Int} {s_el:List Int} {s_now:Int} {s_thr:List Thread} {s_log:List Entry} (h1:s_slots.length≤100000000) (h2:s_sends.length≤100000000) (h3:s_recvs.length≤100000000) (h4:s_fl.length≤100000000) (h5:s_el.length≤100000000) (h6:s_thr.length≤100000000) (h7:s_log.length≤100000000) (hne:s_thr≠[]):Con Tryz.prog 50 [.agg [.int .i64 s_lg,.int .i64 s_th,.int .i64 s_pol,.int .i64 s_wt,.int .i64 s_spin,.int .i64 s_yld,.bool s_single,.int .i64 s_h,.int .i64 s_t,.int .i64 s_m,.slv 2 (s_slots.map encS),.slv 1 (s_sends.map encI),.slv 1 (s_recvs.map encI),.int .i64 s_fe,.slv 1 (s_fl.map encI),.int .i64 s_ee,.slv 1 (s_el.map encI),.int .i64 s_now,.slv 11 (s_thr.map encT),.slv 5 (s_log.map encE)],.int .i64 (-1)] (.agg (encX (State.mk (Config.mk s_lg s_th s_pol s_wt s_spin s_yld s_single) (Word.mk s_h s_t s_m) s_slots s_sends s_recvs (Event.mk s_fe s_fl) (Event.mk s_ee s_el) s_now s_thr s_log) (.slm 1 s_thr.length) (.slv 5 (s_log.map encE))),[(1,some (.rows 48 11 (s_thr.map encT)))],[]):=by
  have hm1:decide ((-1:Int)≥0)=false:=by decide
  refine mcb_of_vc mix x50 (by simp [F50]) fun hw _=>?_
  clear hw
  repeat' with_reducible first|refine gTn_of (fun h=>?_) (fun h=>?_)|refine gT_of (fun h=>?_) (fun h=>?_)|refine caseTn_of (fun h=>?_) (fun h=>?_)|refine caseT_of (fun h=>?_) (fun h=>?_)|refine fin_t (by simp -implicitDefEqProofs only [qA,ld_0,ld_pv,st_0,splice,doEqs,qU,List.reduceReplicate,Nat.reduceAdd,Nat.reduceSub,Nat.reduceLeDiff,Nat.reduceEqDiff,Nat.reduceMul,reduceIte,reduceCtorEq,qI,Nat.reduceLT,Nat.reduceBEq, *]; exact rfl) ?_ ?_ ?_|refine kv_ifn ?_ ?_|refine kv_if ?_ ?_|refine k_if ?_ ?_|refine I0 mix x127 lf127 ?_ ?_ ?_ ?_ ?_|refine I0 mix x126 lf126 ?_ ?_ ?_ ?_ ?_|refine IA ?_ ?_ ?_|refine L1 ?_ ?_|refine L2 ?_ ?_|refine L3 ?_ ?_ ?_ ?_|refine L4 ?_ ?_|refine L5 ?_ ?_ ?_ ?_ ?_|refine L6 ?_ ?_ ?_ ?_ ?_|refine P0 (con33 ?_ ?_ ?_ ?_ ?_ ?_ ?_) ?_ ?_ ?_|refine N1 (con226g hne ?_) ?_ ?_|refine P0 (con225 ?_) ?_ ?_ ?_|refine ACV.of (con225 ?_) ?_ ?_ ?_|refine ACK.of (con225 ?_) ?_ ?_|refine P0 (con224 ?_) ?_ ?_ ?_|refine ACV.of (con224 ?_) ?_ ?_ ?_|refine ACK.of (con224 ?_) ?_ ?_|refine P0 (con227 ?_) ?_ ?_ ?_|refine ACV.of (con227 ?_) ?_ ?_ ?_|refine ACK.of (con227 ?_) ?_ ?_|simp -implicitDefEqProofs only [F50,qA,ld_0,ld_pv,st_0,splice,doEqs,qU,List.reduceReplicate,Nat.reduceAdd,Nat.reduceSub,Nat.reduceLeDiff,Nat.reduceEqDiff,Nat.reduceMul,reduceIte,reduceCtorEq,qI,Nat.reduceLT,Nat.reduceBEq,F127,F126,up_s,Int.toNat_natCast,encT,Int.reduceLE,hm1, *]
  all_goals first
    | omega
    | rfl
    | trace_state

end Go.Sak
