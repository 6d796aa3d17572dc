/- Part S33 of the proofs about the program: K33, K34, K35. Conditions: none. -/
import Derived.Test.YtccdhjhffebpoaaGreatS32
import Derived.Test.YtccdhjhffebpoaaGreatS04
import Derived.Test.YtccdhjhffebpoaaGreatProg
import Derived.KernelRfl
import Derived.Test.YtccdhjhffebpoaaGreatS15
import Derived.Test.YtccdhjhffebpoaaGreatS22
namespace Go.Sak
open Go Go.RowKit Go.Proofs
set_option linter.unusedVariables false
set_option linter.unusedSimpArgs false
set_option maxRecDepth 10000
set_option maxHeartbeats 8000000
def F124:AFn:=⟨25,(.seq (.reg [o1 2 (.mv (.const .slnil))]) (.seq (.seq (.reg [o1 5 (.mv 0),o1 6 (.bin .lss 5 (ci 1)),o1 7 (.mv 6),o4 8 (.mv 0) 7,o4 9 (.bin .gtr 8 (ci 64)) 7,o1 10 (.pick 7 (.const (.bool true)) 9)]) (.cond 10 (.seq (.reg [o1 2 (.mv (.const .slnil))]) .ret) .skip)) (.seq (.reg [o1 11 (.mv 0),o1 12 (.mkslice 145 2 [(.int .i64 0),(.int .i64 0)] 16 11 11),o1 3 (.mv 12)]) (.seq (.seq (.reg [o1 13 (.mv 3),o1 14 (.len 13),o1 15 (.mv (ci 0))]) (.block 0 (.loop (.seq (.reg [o1 16 (.bin .lss 15 14)]) (.seq (.cond 16 .skip (.exit 0)) (.seq (.block 1 (.seq (.reg [o1 17 (.mv 15),o1 4 (.mv 17)]) (.reg [o1 18 (.mv 3),o1 19 (.mv 4),o1 20 (.mv 4),o1 21 (.iaddr 2 18 19),o1 22 (.faddr 0 21),o2 (.st 1 22 20)]))) (.reg [o1 23 (.bin .add 15 (ci 1)),o1 15 (.mv 23)]))))))) (.seq (.reg [o1 24 (.mv 3),o1 2 (.mv 24)]) .ret))))),[(2,none)]⟩
theorem x124:xf Tryz.prog 124=some F124:=by kernel_rfl
def laid (n i:Nat):List Slot:=(List.range n).map fun j=>if j<i then ⟨(j:Int),0⟩ else ⟨0,0⟩
theorem laid_len {n i:Nat}:(laid n i).length=n:=by simp [laid]
theorem laid_0 {n:Nat}:(laid n 0).map encS=List.replicate n [AV.int .i64 0,AV.int .i64 0]:=by
  refine List.ext_getElem (by simp [laid]) fun j h1 h2=>by simp [laid,encS]
theorem laid_s {n i:Nat} (h:i<n):(laid n i).set i ⟨(i:Int),0⟩=laid n (i+1):=by
  refine List.ext_getElem (by simp [laid]) fun j h1 h2=>?_
  rw [List.getElem_set]
  simp only [laid,List.getElem_map,List.getElem_range]
  by_cases e:i=j
  · subst e; simp
  · simp only [e,if_false]
    by_cases hj:j<i
    · rw [if_pos hj,if_pos (by omega)]
    · rw [if_neg hj,if_neg (by omega)]
theorem laid_d {n i:Nat} (h:i<n):(laid n i).getD i default=⟨0,0⟩:=by
  simp [laid,List.getD_eq_getElem?_getD,h]
theorem laid_e {room:Int} (h1:¬ room<1) (h2:¬ room > 64):laid room.toNat room.toNat=slotNew room:=by
  unfold slotNew
  rw [if_neg (by omega)]
  refine List.map_congr_left fun j hj=>?_
  rw [if_pos (List.mem_range.1 hj)]
theorem wk_nil0 {l:List Slot} (h:l=[]):Wk .slnil (.slv 2 (l.map encS)):=by subst h; exact Wk.nil _
theorem con124 {room:Int}:Con Tryz.prog 124 [.int .i64 room] (.slv 2 ((slotNew room).map encS),[],[]):=by
  refine mcb_of_vc mix x124 (by simp [F124]) fun hw _=>?_
  simp only [wfs,AV.wf,inR_i64] at hw
  repeat' with_reducible first|refine gTn_of (fun h=>?_) (fun h=>?_)|refine gT_of (fun h=>?_) (fun h=>?_)|refine caseTn_of (fun h=>?_) (fun h=>?_)|refine caseT_of (fun h=>?_) (fun h=>?_)|refine fin_all ?_ ?_ ?_ rfl ?_|refine kv_ifn ?_ ?_|refine kv_if ?_ ?_|refine k_if ?_ ?_|refine IA ?_ ?_ ?_|refine L1 ?_ ?_|refine L2 ?_ ?_|refine L3 ?_ ?_ ?_ ?_|refine L4 ?_ ?_|refine L5 ?_ ?_ ?_ ?_ ?_|refine L6 ?_ ?_ ?_ ?_ ?_|refine st_row (enc:=encS) (d:=default) (y:=⟨(i:Int),0⟩) (by simp -implicitDefEqProofs only [m_get,Nat.reduceEqDiff,reduceIte,if_true,if_false]; first|done|exact rfl) ?_ ?_ ?_ ?_ (by rw [laid_d (by assumption)]; rfl) ?_|refine rm_of [] [(2,2)] (i+1) ?_ ?_ ?_ ?_ ?_ ?_|simp -implicitDefEqProofs only [F124,qA,ld_0,ld_pv,st_0,splice,doEqs,qU,List.reduceReplicate,Nat.reduceAdd,Nat.reduceSub,Nat.reduceLeDiff,Nat.reduceEqDiff,Nat.reduceMul,reduceIte,reduceCtorEq,qI,Nat.reduceLT,Nat.reduceBEq,up_s,Int.toNat_natCast,encT,doMkslice,lm_normal,lm_exit,lm_ret,laid_len, *]
  all_goals first
    | exact wk_nil0 (by simp only [decide_eq_true_eq] at *; simp [slotNew]; omega)
    | refine lm_of 4 (fun i:Nat=>[none,none,some .slnil,some (.slm 2 room.toNat),none,none,none,none,none,none,none,none,none,none,some (.int .i64 room),some (.int .i64 i),none,none,none,none,none,none,none,none,none]) (fun i=>[(2,.rows 145 2 ((laid room.toNat i).map encS))]) (fun i=>i≤room.toNat) (fun i=>room.toNat - i) [] [(129,2)] 0 (by omega) ?_ ?_ ?_ ?_ ?_ ?_
    | (simp; done)
    | (simp only [decide_eq_true_eq,decide_eq_false_iff_not] at *; omega)
  rotate_right
  · intro i hi
    simp only [all_some,all_none,all_nil]
    intros
    repeat' with_reducible first|refine gTn_of (fun h=>?_) (fun h=>?_)|refine gT_of (fun h=>?_) (fun h=>?_)|refine caseTn_of (fun h=>?_) (fun h=>?_)|refine caseT_of (fun h=>?_) (fun h=>?_)|refine fin_all ?_ ?_ ?_ rfl ?_|refine kv_ifn ?_ ?_|refine kv_if ?_ ?_|refine k_if ?_ ?_|refine IA ?_ ?_ ?_|refine L1 ?_ ?_|refine L2 ?_ ?_|refine L3 ?_ ?_ ?_ ?_|refine L4 ?_ ?_|refine L5 ?_ ?_ ?_ ?_ ?_|refine L6 ?_ ?_ ?_ ?_ ?_|refine st_row (enc:=encS) (d:=default) (y:=⟨(i:Int),0⟩) (by simp -implicitDefEqProofs only [m_get,Nat.reduceEqDiff,reduceIte,if_true,if_false]; first|done|exact rfl) ?_ ?_ ?_ ?_ (by rw [laid_d (by assumption)]; rfl) ?_|refine rm_of [] [(2,2)] (i+1) ?_ ?_ ?_ ?_ ?_ ?_|simp -implicitDefEqProofs only [F124,qA,ld_0,ld_pv,st_0,splice,doEqs,qU,List.reduceReplicate,Nat.reduceAdd,Nat.reduceSub,Nat.reduceLeDiff,Nat.reduceEqDiff,Nat.reduceMul,reduceIte,reduceCtorEq,qI,Nat.reduceLT,Nat.reduceBEq,up_s,Int.toNat_natCast,encT,doMkslice,lm_normal,lm_exit,lm_ret,laid_len, *]
    all_goals first
      | (have hk:i<room.toNat:=by simp only [decide_eq_true_eq] at h; omega
         first
         | omega
         | (rw [laid_d hk,laid_s hk]; done)
         | (grind [wrap64]))
      | (have hk:i=room.toNat:=by simp only [decide_eq_false_iff_not] at h; omega
         subst hk
         refine Wk.of_eq ?_
         rw [laid_e (by simp only [decide_eq_false_iff_not] at *; assumption) (by simp only [decide_eq_false_iff_not] at *; assumption)]
         try rw [List.take_of_length_le (by simp [slotNew,List.length_map]; grind)]
         done)
      | (simp; done)
      | trace_state
  all_goals first
    | omega
    | (rw [← laid_0]; simp -implicitDefEqProofs only [qA,ld_0,ld_pv,st_0,splice,doEqs,qU,List.reduceReplicate,Nat.reduceAdd,Nat.reduceSub,Nat.reduceLeDiff,Nat.reduceEqDiff,Nat.reduceMul,reduceIte,reduceCtorEq,qI,Nat.reduceLT,Nat.reduceBEq]; done)
    | (simp -implicitDefEqProofs only [qA,ld_0,ld_pv,st_0,splice,doEqs,qU,List.reduceReplicate,Nat.reduceAdd,Nat.reduceSub,Nat.reduceLeDiff,Nat.reduceEqDiff,Nat.reduceMul,reduceIte,reduceCtorEq,qI,Nat.reduceLT,Nat.reduceBEq]; simp only [decide_eq_false_iff_not] at *; simp; omega)
    | (simp; done)
    | trace_state

def F47:AFn:=⟨19,(.seq (.reg [o1 1 (.box 23 0),o1 2 (.alloc 33 [(.int .i64 0),(.int .i64 0),(.int .i64 0),(.int .i64 0),(.int .i64 0),(.int .i64 0),(.bool false),(.int .i64 0),(.int .i64 0),(.int .i64 0),.slnil,.slnil,.slnil,(.int .i64 0),.slnil,(.int .i64 0),.slnil,(.int .i64 0),.slnil,.slnil]),o1 3 (.mv (ci 0))]) (.seq (.seq (.reg [o1 5 (.ld 7 true 1),o1 6 (.call 123 [5]),o1 4 (.mv 6)]) (.seq (.reg [o1 7 (.mv 4),o1 8 (.bin .neq 7 (ci 0))]) (.cond 8 (.seq (.reg [o1 9 (.build [(.int .i64 0),(.int .i64 0),(.int .i64 0),(.int .i64 0),(.int .i64 0),(.int .i64 0),(.bool false),(.int .i64 0),(.int .i64 0),(.int .i64 0),.slnil,.slnil,.slnil,(.int .i64 0),.slnil,(.int .i64 0),.slnil,(.int .i64 0),.slnil,.slnil] []),o1 10 (.mv 4),o2 (.st 20 2 9),o1 3 (.mv 10)]) .ret) .skip))) (.seq (.regT [o1 11 (.ld 7 true 1),o1 12 (.ld 7 true 1),o1 13 (.call 103 [12]),o1 14 (.call 124 [13]),o1 15 (.faddr 1 1),o1 16 (.ld 1 false 15),o1 17 (.mkslice 48 11 [(.int .i64 0),(.int .i64 0),(.int .i64 0),(.int .i64 0),(.int .i64 0),(.int .i64 0),(.int .i64 0),(.int .i64 0),(.bool false),(.int .i64 0),(.int .i64 0)] 88 16 16),o1 18 (.build [(.int .i64 0),(.int .i64 0),(.int .i64 0),(.int .i64 0),(.int .i64 0),(.int .i64 0),(.bool false),(.int .i64 0),(.int .i64 0),(.int .i64 0),.slnil,.slnil,.slnil,(.int .i64 0),.slnil,(.int .i64 0),.slnil,(.int .i64 0),.slnil,.slnil] [(0,7,11),(10,1,14),(18,1,17)]),o2 (.st 20 2 18),o1 3 (.mv (ci 0))] [(0,1),(0,2),(0,3),(0,4),(1,4),(2,4),(3,4),(0,5),(1,5),(2,5),(3,5),(0,6),(1,6),(2,6),(3,6)]) .ret))),[(2,some (20,true)),(3,none)]⟩
theorem x47:xf Tryz.prog 47=some F47:=by kernel_rfl
theorem enc_thr0 {n:Nat}:List.replicate n [AV.int .i64 0,.int .i64 0,.int .i64 0,.int .i64 0,.int .i64 0,.int .i64 0,.int .i64 0,.int .i64 0,.bool false,.int .i64 0,.int .i64 0]=(List.replicate n (default:Thread)).map encT:=by simp [encT]; exact .inr ⟨rfl,rfl,rfl,rfl,rfl,rfl,rfl,rfl,rfl,rfl,rfl⟩
theorem take_rep {α β:Type} {n:Nat} {x:α} {f:α→β}:((List.replicate n x).map f).take n=(List.replicate n x).map f:=List.take_of_length_le (by simp)
theorem conf_th {c:Config} (h:confCheck c=0):1≤c.th∧c.th≤16:=by
  unfold confCheck at h
  split at h
  · rename_i h0
    simp only [confOk,within,Bool.and_eq_true,decide_eq_true_eq] at h0
    omega
  · simp at h
theorem con47 {c_lg c_th:Int} {c_pol c_wt:Int} {c_spin c_yld:Int} {c_single:Bool}:Con Tryz.prog 47 [.agg [.int .i64 c_lg,.int .i64 c_th,.int .i64 c_pol,.int .i64 c_wt,.int .i64 c_spin,.int .i64 c_yld,.bool c_single]] (.tup [.agg (encZ (fabNew (Config.mk c_lg c_th c_pol c_wt c_spin c_yld c_single)).1),.int .i64 (fabNew (Config.mk c_lg c_th c_pol c_wt c_spin c_yld c_single)).2],[],[]):=by
  refine mcb_of_vc mix x47 (by simp [F47]) fun hw _=>?_
  simp only [wfs,AV.wf,inR_i64] at hw
  repeat' with_reducible first|refine gTn_of (fun h=>?_) (fun h=>?_)|refine gT_of (fun h=>?_) (fun h=>?_)|refine caseTn_of (fun h=>?_) (fun h=>?_)|refine caseT_of (fun h=>?_) (fun h=>?_)|refine FN ?_ ?_ ?_ ?_ rfl ?_|refine kv_ifn ?_ ?_|refine kv_if ?_ ?_|refine k_if ?_ ?_|refine L1 ?_ ?_|refine L2 ?_ ?_|refine L3 ?_ ?_ ?_ ?_|refine L4 ?_ ?_|refine L5 ?_ ?_ ?_ ?_ ?_|refine L6 ?_ ?_ ?_ ?_ ?_|refine P0 (con123) ?_ ?_ ?_|refine ACV.of (con123) ?_ ?_ ?_|refine ACK.of (con123) ?_ ?_|refine P0 (con103) ?_ ?_ ?_|refine ACV.of (con103) ?_ ?_ ?_|refine ACK.of (con103) ?_ ?_|refine P0 (con124) ?_ ?_ ?_|refine ACV.of (con124) ?_ ?_ ?_|refine ACK.of (con124) ?_ ?_|simp -implicitDefEqProofs only [F47,qA,ld_0,ld_pv,st_0,splice,doEqs,qU,List.reduceReplicate,Nat.reduceAdd,Nat.reduceSub,Nat.reduceLeDiff,Nat.reduceEqDiff,Nat.reduceMul,reduceIte,reduceCtorEq,qI,Nat.reduceLT,Nat.reduceBEq,doMkslice,enc_thr0,Int.toNat_natCast, *]
  all_goals first
    | (have:=conf_th (of_decide_eq_true h); simp only [] at this; omega)
    | (rw [show fabNew (Config.mk c_lg c_th c_pol c_wt c_spin c_yld c_single)=_ from if_pos (by simpa using h)]
       simp only [encZ,encX,List.map_nil,take_rep]
       refine Wk.tup ?_
       simp only [wks_cons,wks_nil]
       refine ⟨Wk.agg ?_,fun h=>h,Wk.refl _,fun h=>h,trivial⟩
       simp only [wks_cons,wks_nil]
       repeat' first
         | exact Wk.refl _
         | exact Wk.nil _
         | exact trivial
         | exact fun _=>rfl
         | refine And.intro ?_ ?_)
    | (rw [show fabNew (Config.mk c_lg c_th c_pol c_wt c_spin c_yld c_single)=_ from if_neg (by simpa using h)]
       simp only [encZ,encX,List.map_nil,take_rep]
       refine Wk.tup ?_
       simp only [wks_cons,wks_nil]
       refine ⟨Wk.agg ?_,fun h=>h,Wk.refl _,fun h=>h,trivial⟩
       simp only [wks_cons,wks_nil]
       repeat' first
         | exact Wk.refl _
         | exact Wk.nil _
         | exact trivial
         | exact fun _=>rfl
         | refine And.intro ?_ ?_)
    | trace_state

def F128:AFn:=⟨18,(.regT [o1 7 (.mv 0),o1 8 (.mv 0),o1 9 (.nilchk 8),o1 10 (.ld 11 true 9),o1 11 (.ld 1 false 1),o1 12 (.ld 1 false 2),o1 13 (.ld 1 false 3),o1 14 (.call 129 [10,11,12,13]),o1 6 (.mv 14),o1 15 (.ext 6 0),o1 16 (.ext 6 1),o1 17 (.nilchk 7),o2 (.st 11 17 15),o2 (.st 1 4 16)] [(2,4),(3,4),(2,5),(3,5),(4,5),(2,6),(3,6),(4,6),(5,6)]),[]⟩
theorem x128:xf Tryz.prog 128=some F128:=by kernel_rfl
theorem lf128:F128.code.lf=true:=rfl
def F48:AFn:=⟨32,(.seq (.reg [o1 5 (.box 33 0),o1 7 (.box 3 2),o1 8 (.box 3 3),o1 9 (.box 3 4),o1 10 (.alloc 33 [(.int .i64 0),(.int .i64 0),(.int .i64 0),(.int .i64 0),(.int .i64 0),(.int .i64 0),(.bool false),(.int .i64 0),(.int .i64 0),(.int .i64 0),.slnil,.slnil,.slnil,(.int .i64 0),.slnil,(.int .i64 0),.slnil,(.int .i64 0),.slnil,.slnil]),o1 11 (.mv (ci 0))]) (.seq (.reg [o1 12 (.alloc 43 [(.int .i64 0)]),o2 (.st 1 12 (ci 20))]) (.seq (.seq (.reg [o1 14 (.ld 20 true 5),o1 15 (.call 33 [14])]) (.cond 15 (.reg [o1 16 (.faddr 0 5),o1 17 (.ld 7 true 16),o1 18 (.mv 1),o1 19 (.ld 1 false 7),o1 20 (.call 125 [17,18,19]),o2 (.st 1 12 20)]) .skip)) (.seq (.seq (.reg [o1 21 (.ld 1 false 12),o1 22 (.bin .neq 21 (ci 0))]) (.cond 22 (.seq (.regT [o1 23 (.ld 20 true 5),o1 24 (.call 126 [23]),o1 25 (.ld 1 false 12),o2 (.st 20 10 24),o1 11 (.mv 25)] [(0,2),(1,2),(2,3)]) .ret) .skip)) (.seq (.reg [o1 26 (.ld 20 true 5),o1 27 (.mv 1),o1 28 (.mkfn (.func 128) [] [7,8,9,12]),o1 29 (.call 127 [26,27,28]),o1 13 (.alloc 33 [(.int .i64 0),(.int .i64 0),(.int .i64 0),(.int .i64 0),(.int .i64 0),(.int .i64 0),(.bool false),(.int .i64 0),(.int .i64 0),(.int .i64 0),.slnil,.slnil,.slnil,(.int .i64 0),.slnil,(.int .i64 0),.slnil,(.int .i64 0),.slnil,.slnil]),o2 (.st 20 13 29)]) (.seq (.regT [o1 30 (.ld 20 true 13),o1 31 (.ld 1 false 12),o2 (.st 20 10 30),o1 11 (.mv 31)] [(0,1),(1,2)]) .ret)))))),[(10,some (20,true)),(11,none)]⟩
theorem x48:xf Tryz.prog 48=some F48:=by kernel_rfl
theorem con48 {s_lg s_th:Int} {s_pol s_wt:Int} {s_spin s_yld:Int} {s_single:Bool} {s_h s_t s_m:Int} {s_slots:List Slot} {s_sends s_recvs:List Int} {s_fe:Int} {s_fl:List Int} {s_ee:Int} {s_el:List Int} {s_now:Int} {s_thr:List Thread} {s_log:List Entry} {id kind val untl:Int} (h1:s_slots.length≤100000000) (h2:s_sends.length≤100000000) (h3:s_recvs.length≤100000000) (h4:s_fl.length≤100000000) (h5:s_el.length≤100000000) (h6:s_thr.length≤100000000) (h7:s_log.length≤100000000):Con Tryz.prog 48 [.agg [.int .i64 s_lg,.int .i64 s_th,.int .i64 s_pol,.int .i64 s_wt,.int .i64 s_spin,.int .i64 s_yld,.bool s_single,.int .i64 s_h,.int .i64 s_t,.int .i64 s_m,.slv 2 (s_slots.map encS),.slv 1 (s_sends.map encI),.slv 1 (s_recvs.map encI),.int .i64 s_fe,.slv 1 (s_fl.map encI),.int .i64 s_ee,.slv 1 (s_el.map encI),.int .i64 s_now,.slv 11 (s_thr.map encT),.slv 5 (s_log.map encE)],.int .i64 id,.int .i64 kind,.int .i64 val,.int .i64 untl] (.tup [.agg (encZ (fabInvoke (State.mk (Config.mk s_lg s_th s_pol s_wt s_spin s_yld s_single) (Word.mk s_h s_t s_m) s_slots s_sends s_recvs (Event.mk s_fe s_fl) (Event.mk s_ee s_el) s_now s_thr s_log) id kind val untl).1),.int .i64 (fabInvoke (State.mk (Config.mk s_lg s_th s_pol s_wt s_spin s_yld s_single) (Word.mk s_h s_t s_m) s_slots s_sends s_recvs (Event.mk s_fe s_fl) (Event.mk s_ee s_el) s_now s_thr s_log) id kind val untl).2],[],[]):=by
  by_cases hchk:fabCheck (State.mk (Config.mk s_lg s_th s_pol s_wt s_spin s_yld s_single) (Word.mk s_h s_t s_m) s_slots s_sends s_recvs (Event.mk s_fe s_fl) (Event.mk s_ee s_el) s_now s_thr s_log)=true
  · by_cases hmay:opMay s_th s_single id kind=0
    · have hI:fabIs (State.mk (Config.mk s_lg s_th s_pol s_wt s_spin s_yld s_single) (Word.mk s_h s_t s_m) s_slots s_sends s_recvs (Event.mk s_fe s_fl) (Event.mk s_ee s_el) s_now s_thr s_log) id=true:=by
        have hl:(s_thr.length:Int)=s_th:=by
          have hchk':=hchk
          simp only [fabCheck,Bool.and_eq_true,decide_eq_true_eq] at hchk'
          exact hchk'.1.2
        simp only [fabIs,hchk,Bool.true_and,Bool.and_eq_true,decide_eq_true_eq]
        unfold opMay at hmay
        split at hmay
        · simp at hmay
        · omega
      rw [show fabInvoke (State.mk (Config.mk s_lg s_th s_pol s_wt s_spin s_yld s_single) (Word.mk s_h s_t s_m) s_slots s_sends s_recvs (Event.mk s_fe s_fl) (Event.mk s_ee s_el) s_now s_thr s_log) id kind val untl=(put1 (State.mk (Config.mk s_lg s_th s_pol s_wt s_spin s_yld s_single) (Word.mk s_h s_t s_m) s_slots s_sends s_recvs (Event.mk s_fe s_fl) (Event.mk s_ee s_el) s_now s_thr s_log) id (tInvoke (me (State.mk (Config.mk s_lg s_th s_pol s_wt s_spin s_yld s_single) (Word.mk s_h s_t s_m) s_slots s_sends s_recvs (Event.mk s_fe s_fl) (Event.mk s_ee s_el) s_now s_thr s_log) id) kind val untl).1,(tInvoke (me (State.mk (Config.mk s_lg s_th s_pol s_wt s_spin s_yld s_single) (Word.mk s_h s_t s_m) s_slots s_sends s_recvs (Event.mk s_fe s_fl) (Event.mk s_ee s_el) s_now s_thr s_log) id) kind val untl).2) from by unfold fabInvoke; rw [if_neg (by simp [hchk]),if_neg (by simpa using hmay),if_pos hI]]
      have hI':=hI
      simp only [fabIs,Bool.and_eq_true,decide_eq_true_eq] at hI'
      obtain ⟨⟨_,hge⟩,hlt⟩:=hI'
      have hid:id.toNat<s_thr.length:=by omega
      have hne:s_thr≠[]:=by intro h; subst h; simp at hlt; omega
      clear hI
      refine mcb_of_vc mix x48 (by simp [F48]) fun hw _=>?_
      clear hw
      repeat' with_reducible first|refine gTn_of (fun h=>?_) (fun h=>?_)|refine gT_of (fun h=>?_) (fun h=>?_)|refine caseTn_of (fun h=>?_) (fun h=>?_)|refine caseT_of (fun h=>?_) (fun h=>?_)|refine FN ?_ ?_ ?_ ?_ rfl ?_|refine kv_ifn ?_ ?_|refine kv_if ?_ ?_|refine k_if ?_ ?_|refine I2 mix x127 lf127 ?_ ?_ ?_ ?_ ?_|refine I2 mix x126 lf126 ?_ ?_ ?_ ?_ ?_|refine I2 mix x128 lf128 ?_ ?_ ?_ ?_ ?_|refine IA ?_ ?_ ?_|refine L1 ?_ ?_|refine L2 ?_ ?_|refine L3 ?_ ?_ ?_ ?_|refine L4 ?_ ?_|refine L5 ?_ ?_ ?_ ?_ ?_|refine L6 ?_ ?_ ?_ ?_ ?_|refine P0 (con33 ?_ ?_ ?_ ?_ ?_ ?_ ?_) ?_ ?_ ?_|refine N1 (con226g hne ?_) ?_ ?_|refine P0 (con225 ?_) ?_ ?_ ?_|refine ACV.of (con225 ?_) ?_ ?_ ?_|refine ACK.of (con225 ?_) ?_ ?_|refine P0 (con224 ?_) ?_ ?_ ?_|refine ACV.of (con224 ?_) ?_ ?_ ?_|refine ACK.of (con224 ?_) ?_ ?_|refine P0 (con227 ?_) ?_ ?_ ?_|refine ACV.of (con227 ?_) ?_ ?_ ?_|refine ACK.of (con227 ?_) ?_ ?_|refine P0 (con129) ?_ ?_ ?_|refine ACV.of (con129) ?_ ?_ ?_|refine ACK.of (con129) ?_ ?_|refine P0 (con125) ?_ ?_ ?_|refine ACV.of (con125) ?_ ?_ ?_|refine ACK.of (con125) ?_ ?_|simp -implicitDefEqProofs only [F48,qA,ld_0,ld_pv,st_0,splice,doEqs,qU,List.reduceReplicate,Nat.reduceAdd,Nat.reduceSub,Nat.reduceLeDiff,Nat.reduceEqDiff,Nat.reduceMul,reduceIte,reduceCtorEq,qI,Nat.reduceLT,Nat.reduceBEq,F127,F126,F128,up_s,Int.toNat_natCast,encT,hchk,hge,hlt,hmay,encX,set_set,getD_set_same, *]
      all_goals first
        | omega
        | (constructor <;> omega)
        | exact Wk.refl _
        | trace_state
    · rw [show fabInvoke (State.mk (Config.mk s_lg s_th s_pol s_wt s_spin s_yld s_single) (Word.mk s_h s_t s_m) s_slots s_sends s_recvs (Event.mk s_fe s_fl) (Event.mk s_ee s_el) s_now s_thr s_log) id kind val untl=((State.mk (Config.mk s_lg s_th s_pol s_wt s_spin s_yld s_single) (Word.mk s_h s_t s_m) s_slots s_sends s_recvs (Event.mk s_fe s_fl) (Event.mk s_ee s_el) s_now s_thr s_log),opMay s_th s_single id kind) from by unfold fabInvoke; rw [if_neg (by simp [hchk]),if_pos hmay]]
      refine mcb_of_vc mix x48 (by simp [F48]) fun hw _=>?_
      clear hw
      repeat' with_reducible first|refine gTn_of (fun h=>?_) (fun h=>?_)|refine gT_of (fun h=>?_) (fun h=>?_)|refine caseTn_of (fun h=>?_) (fun h=>?_)|refine caseT_of (fun h=>?_) (fun h=>?_)|refine FN ?_ ?_ ?_ ?_ rfl ?_|refine kv_ifn ?_ ?_|refine kv_if ?_ ?_|refine k_if ?_ ?_|refine I2 mix x126 lf126 ?_ ?_ ?_ ?_ ?_|refine IA ?_ ?_ ?_|refine L1 ?_ ?_|refine L2 ?_ ?_|refine L3 ?_ ?_ ?_ ?_|refine L4 ?_ ?_|refine L5 ?_ ?_ ?_ ?_ ?_|refine L6 ?_ ?_ ?_ ?_ ?_|refine P0 (con33 ?_ ?_ ?_ ?_ ?_ ?_ ?_) ?_ ?_ ?_|refine P0 (con225 ?_) ?_ ?_ ?_|refine ACV.of (con225 ?_) ?_ ?_ ?_|refine ACK.of (con225 ?_) ?_ ?_|refine P0 (con224 ?_) ?_ ?_ ?_|refine ACV.of (con224 ?_) ?_ ?_ ?_|refine ACK.of (con224 ?_) ?_ ?_|refine P0 (con227 ?_) ?_ ?_ ?_|refine ACV.of (con227 ?_) ?_ ?_ ?_|refine ACK.of (con227 ?_) ?_ ?_|refine P0 (con226 ?_) ?_ ?_ ?_|refine ACV.of (con226 ?_) ?_ ?_ ?_|refine ACK.of (con226 ?_) ?_ ?_|refine P0 (con125) ?_ ?_ ?_|refine ACV.of (con125) ?_ ?_ ?_|refine ACK.of (con125) ?_ ?_|simp -implicitDefEqProofs only [F48,qA,ld_0,ld_pv,st_0,splice,doEqs,qU,List.reduceReplicate,Nat.reduceAdd,Nat.reduceSub,Nat.reduceLeDiff,Nat.reduceEqDiff,Nat.reduceMul,reduceIte,reduceCtorEq,qI,Nat.reduceLT,Nat.reduceBEq,F126,up_s,Int.toNat_natCast,encT,hmay, *]
      all_goals first
        | omega
        | (constructor <;> omega)
        | exact Wk.refl _
        | trace_state
  · rw [show fabInvoke (State.mk (Config.mk s_lg s_th s_pol s_wt s_spin s_yld s_single) (Word.mk s_h s_t s_m) s_slots s_sends s_recvs (Event.mk s_fe s_fl) (Event.mk s_ee s_el) s_now s_thr s_log) id kind val untl=((State.mk (Config.mk s_lg s_th s_pol s_wt s_spin s_yld s_single) (Word.mk s_h s_t s_m) s_slots s_sends s_recvs (Event.mk s_fe s_fl) (Event.mk s_ee s_el) s_now s_thr s_log),20) from by unfold fabInvoke; rw [if_pos hchk]]
    have hmay:True:=trivial
    refine mcb_of_vc mix x48 (by simp [F48]) fun hw _=>?_
    clear hw
    repeat' with_reducible first|refine gTn_of (fun h=>?_) (fun h=>?_)|refine gT_of (fun h=>?_) (fun h=>?_)|refine caseTn_of (fun h=>?_) (fun h=>?_)|refine caseT_of (fun h=>?_) (fun h=>?_)|refine FN ?_ ?_ ?_ ?_ rfl ?_|refine kv_ifn ?_ ?_|refine kv_if ?_ ?_|refine k_if ?_ ?_|refine I2 mix x126 lf126 ?_ ?_ ?_ ?_ ?_|refine IA ?_ ?_ ?_|refine L1 ?_ ?_|refine L2 ?_ ?_|refine L3 ?_ ?_ ?_ ?_|refine L4 ?_ ?_|refine L5 ?_ ?_ ?_ ?_ ?_|refine L6 ?_ ?_ ?_ ?_ ?_|refine P0 (con33 ?_ ?_ ?_ ?_ ?_ ?_ ?_) ?_ ?_ ?_|refine P0 (con225 ?_) ?_ ?_ ?_|refine ACV.of (con225 ?_) ?_ ?_ ?_|refine ACK.of (con225 ?_) ?_ ?_|refine P0 (con224 ?_) ?_ ?_ ?_|refine ACV.of (con224 ?_) ?_ ?_ ?_|refine ACK.of (con224 ?_) ?_ ?_|refine P0 (con227 ?_) ?_ ?_ ?_|refine ACV.of (con227 ?_) ?_ ?_ ?_|refine ACK.of (con227 ?_) ?_ ?_|refine P0 (con226 ?_) ?_ ?_ ?_|refine ACV.of (con226 ?_) ?_ ?_ ?_|refine ACK.of (con226 ?_) ?_ ?_|refine P0 (con125) ?_ ?_ ?_|refine ACV.of (con125) ?_ ?_ ?_|refine ACK.of (con125) ?_ ?_|simp -implicitDefEqProofs only [F48,qA,ld_0,ld_pv,st_0,splice,doEqs,qU,List.reduceReplicate,Nat.reduceAdd,Nat.reduceSub,Nat.reduceLeDiff,Nat.reduceEqDiff,Nat.reduceMul,reduceIte,reduceCtorEq,qI,Nat.reduceLT,Nat.reduceBEq,F126,up_s,Int.toNat_natCast,encT,hmay, *]
    all_goals first
      | omega
      | (constructor <;> omega)
      | exact Wk.refl _
      | exact absurd h (by decide)
      | trace_state

end Go.Sak
