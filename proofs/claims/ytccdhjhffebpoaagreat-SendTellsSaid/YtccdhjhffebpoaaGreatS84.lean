/- Part S84 of the proofs about the program: K104, K105, K106, K107. Conditions: none. -/
import Derived.Test.YtccdhjhffebpoaaGreatS83
import Derived.Test.YtccdhjhffebpoaaGreatS16
import Derived.Test.YtccdhjhffebpoaaGreatS40
import Derived.Test.YtccdhjhffebpoaaGreatS47
import Derived.Test.YtccdhjhffebpoaaGreatS04
import Derived.Test.YtccdhjhffebpoaaGreatProg
import Derived.KernelRfl
namespace Go.Sak
open Go Go.RowKit Go.Proofs
set_option linter.unusedVariables false
set_option linter.unusedSimpArgs false
set_option maxRecDepth 10000
set_option maxHeartbeats 8000000
theorem ok9 {l:List Slot} {i:Nat}:slotOk l i=true↔0≤(l.getD i default).stamp∧(l.getD i default).stamp≤2199023255552∧posPlace (l.getD i default).stamp l.length=i:=by
  simp only [slotOk,Bool.and_eq_true,decide_eq_true_eq,and_assoc]
theorem ck9_s {l:List Slot} {i:Nat} (h:∀ j,j<i→slotOk l j=true) (h1:0≤(l.getD i default).stamp) (h2:(l.getD i default).stamp≤2199023255552) (h3:posPlace (l.getD i default).stamp l.length=i):∀ j,j<i+1→slotOk l j=true:=fun j hj=>by
  rcases Nat.lt_or_eq_of_le (Nat.le_of_lt_succ hj) with h9 | h9
  · exact h j h9
  · subst h9; exact ok9.2 ⟨h1,h2,h3⟩
theorem ck9_t {l:List Slot} (h0:1≤l.length) (h1:l.length≤64) (h:∀ j,j<l.length→slotOk l j=true):slotCheck l=true:=by
  unfold slotCheck; rw [rall_t h]; simp; omega
theorem ck9_f {l:List Slot} {i:Nat} (hi:i<l.length) (h:(l.getD i default).stamp<0∨(l.getD i default).stamp > 2199023255552∨posPlace (l.getD i default).stamp l.length≠i):slotCheck l=false:=by
  have:slotOk l i=false:=by
    cases hc:slotOk l i with
    | false=>rfl
    | true=>have:=ok9.1 hc; omega
  unfold slotCheck; rw [rall_f hi this]; rfl
theorem ck9_n {l:List Slot} (h:l.length<1∨l.length > 64):slotCheck l=false:=by
  cases hc:slotCheck l with
  | false=>rfl
  | true=>simp only [slotCheck,Bool.and_eq_true,decide_eq_true_eq] at hc; omega
def F164:AFn:=⟨44,(.seq (.reg [o1 2 (.mv (.const (.bool false)))]) (.seq (.seq (.reg [o1 4 (.mv 0),o1 5 (.len 4),o1 6 (.bin .lss 5 (ci 1)),o1 7 (.mv 6),o4 8 (.mv 0) 7,o4 9 (.len 8) 7,o4 10 (.bin .gtr 9 (ci 64)) 7,o1 11 (.pick 7 (.const (.bool true)) 10)]) (.cond 11 (.seq (.reg [o1 2 (.mv (.const (.bool false)))]) .ret) .skip)) (.seq (.seq (.reg [o1 3 (.mv (ci 0))]) (.block 0 (.loop (.seq (.seq (.reg [o1 12 (.mv 3),o1 13 (.mv 0),o1 14 (.len 13),o1 15 (.bin .lss 12 14)]) (.cond 15 .skip (.exit 0))) (.seq (.block 1 (.seq (.reg [o1 18 (.mv 0),o1 19 (.mv 3),o1 20 (.iaddr 2 18 19),o1 21 (.faddr 0 20),o1 22 (.ld 1 false 21),o1 23 (.bin .lss 22 (ci 0)),o1 24 (.mv 23),o4 25 (.mv 0) 24,o4 26 (.mv 3) 24,o4 27 (.iaddr 2 25 26) 24,o4 28 (.faddr 0 27) 24,o4 29 (.ld 1 false 28) 24,o4 30 (.bin .gtr 29 (ci 2199023255552)) 24,o1 31 (.pick 24 (.const (.bool true)) 30),o1 32 (.mv 31),o4 33 (.mv 0) 32,o4 34 (.mv 3) 32,o4 35 (.iaddr 2 33 34) 32,o4 36 (.faddr 0 35) 32,o4 37 (.ld 1 false 36) 32,o4 38 (.mv 0) 32,o4 39 (.len 38) 32,o4 40 (.call 194 [37,39]) 32,o4 41 (.mv 3) 32,o4 42 (.bin .neq 40 41) 32,o1 43 (.pick 32 (.const (.bool true)) 42)]) (.cond 43 (.seq (.reg [o1 2 (.mv (.const (.bool false)))]) .ret) .skip))) (.reg [o1 16 (.mv 3),o1 17 (.bin .add 16 (ci 1)),o1 3 (.mv 17)])))))) (.seq (.reg [o1 2 (.mv (.const (.bool true)))]) .ret)))),[(2,none)]⟩
theorem x164:xf Tryz.prog 164=some F164:=by kernel_rfl
theorem con164 {l:List Slot}:Con Tryz.prog 164 [.slv 2 (l.map encS)] (.bool (slotCheck l),[],[]):=by
  by_cases hl:1≤l.length∧l.length≤64
  · have hd1:((l.length:Int)<1)=False:=by simp; omega
    have hd2:((l.length:Int) > 64)=False:=by simp; omega
    refine mcb_of_vc mix x164 (by simp [F164]) fun hw _=>?_
    clear hw
    repeat' with_reducible first|refine gTn_of (fun h=>?_) (fun h=>?_)|refine gT_of (fun h=>?_) (fun h=>?_)|refine caseTn_of (fun h=>?_) (fun h=>?_)|refine caseT_of (fun h=>?_) (fun h=>?_)|refine FN ?_ ?_ ?_ ?_ rfl ?_|refine kv_ifn ?_ ?_|refine kv_if ?_ ?_|refine k_if ?_ ?_|refine IA ?_ ?_ ?_|refine L1 ?_ ?_|refine L2 ?_ ?_|refine L3 ?_ ?_ ?_ ?_|refine L4 ?_ ?_|refine L5 ?_ ?_ ?_ ?_ ?_|refine L6 ?_ ?_ ?_ ?_ ?_|refine ia_of (d:=default) ?_ ?_|refine P0 (con194) ?_ ?_ ?_|refine ACV.of (con194) ?_ ?_ ?_|refine ACK.of (con194) ?_ ?_|simp -implicitDefEqProofs only [F164,qA,ld_0,ld_pv,st_0,splice,doEqs,qU,List.reduceReplicate,Nat.reduceAdd,Nat.reduceSub,Nat.reduceLeDiff,Nat.reduceEqDiff,Nat.reduceMul,reduceIte,reduceCtorEq,qI,Nat.reduceLT,Nat.reduceBEq,up_s,Int.toNat_natCast,encT,encS,Int.natCast_zero,lm_normal,lm_exit,lm_ret,nl_s,nl_0, *]
    all_goals first
      | refine lm_of 5 (fun i:Nat=>some (.slv 2 (l.map encS)) :: nl 2 (some (.int .i64 i) :: nl 40 [])) (fun _=>[]) (fun i=>i≤l.length∧∀ j,j<i→slotOk l j=true) (fun i=>l.length - i) [] [] 0 (by omega) ?_ ?_ ?_ ?_ ?_ ?_
      | trace_state
    rotate_right
    · rintro i ⟨hi,hJ⟩
      simp only [all_some,all_none,all_nil,nl_s,nl_0]
      intros
      repeat' with_reducible first|refine gTn_of (fun h=>?_) (fun h=>?_)|refine gT_of (fun h=>?_) (fun h=>?_)|refine caseTn_of (fun h=>?_) (fun h=>?_)|refine caseT_of (fun h=>?_) (fun h=>?_)|refine FN ?_ ?_ ?_ ?_ rfl ?_|refine kv_ifn ?_ ?_|refine kv_if ?_ ?_|refine k_if ?_ ?_|refine IA ?_ ?_ ?_|refine L1 ?_ ?_|refine L2 ?_ ?_|refine L3 ?_ ?_ ?_ ?_|refine L4 ?_ ?_|refine L5 ?_ ?_ ?_ ?_ ?_|refine L6 ?_ ?_ ?_ ?_ ?_|refine ia_of (d:=default) ?_ ?_|refine rm_of [] [] (i+1) ?_ ?_ ?_ ?_ ?_ ?_|refine P0 (con194) ?_ ?_ ?_|refine ACV.of (con194) ?_ ?_ ?_|refine ACK.of (con194) ?_ ?_|simp -implicitDefEqProofs only [F164,qA,ld_0,ld_pv,st_0,splice,doEqs,qU,List.reduceReplicate,Nat.reduceAdd,Nat.reduceSub,Nat.reduceLeDiff,Nat.reduceEqDiff,Nat.reduceMul,reduceIte,reduceCtorEq,qI,Nat.reduceLT,Nat.reduceBEq,up_s,Int.toNat_natCast,encT,encS,Int.natCast_zero,lm_normal,lm_exit,lm_ret,nl_s,nl_0, *]
      all_goals first
        | (refine Wk.of_eq ?_; rw [ck9_t hl.1 hl.2 (fun j hj=>hJ j (by have:=of_decide_eq_false (by assumption:decide ((i:Int)<(l.length:Int))=false); omega))]; done)
        | (have hlt:=of_decide_eq_true (by assumption:decide ((i:Int)<(l.length:Int))=true)
           have hil:i<l.length:=by omega
           simp only [decide_eq_true_eq,decide_eq_false_iff_not,Bool.not_eq_true',Bool.not_eq_false'] at *
           first
           | omega
           | exact ⟨by omega,by omega⟩
           | (rw [wrap64 (by omega) (by omega)]; omega)
           | (refine Wk.of_eq ?_; rw [ck9_f hil (.inl (by omega))]; done)
           | (refine Wk.of_eq ?_; rw [ck9_f hil (.inr (.inl (by omega)))]; done)
           | (refine Wk.of_eq ?_; rw [ck9_f hil (.inr (.inr (by omega)))]; done)
           | exact ⟨by omega,ck9_s hJ (by omega) (by omega) (by omega)⟩)
        | trace_state
    all_goals first
      | omega
      | exact ⟨Nat.zero_le _,fun j hj=>absurd hj (Nat.not_lt_zero j)⟩
      | (simp -implicitDefEqProofs only [qA,ld_0,ld_pv,st_0,splice,doEqs,qU,List.reduceReplicate,Nat.reduceAdd,Nat.reduceSub,Nat.reduceLeDiff,Nat.reduceEqDiff,Nat.reduceMul,reduceIte,reduceCtorEq,qI,Nat.reduceLT,Nat.reduceBEq,qZ,nl_s,nl_0]; first | done | (simp; done))
      | trace_state
  · rw [ck9_n (by omega)]
    refine mcb_of_vc mix x164 (by simp [F164]) fun hw _=>?_
    clear hw
    repeat' with_reducible first|refine gTn_of (fun h=>?_) (fun h=>?_)|refine gT_of (fun h=>?_) (fun h=>?_)|refine caseTn_of (fun h=>?_) (fun h=>?_)|refine caseT_of (fun h=>?_) (fun h=>?_)|refine FN ?_ ?_ ?_ ?_ rfl ?_|refine kv_ifn ?_ ?_|refine kv_if ?_ ?_|refine k_if ?_ ?_|refine IA ?_ ?_ ?_|refine L1 ?_ ?_|refine L2 ?_ ?_|refine L3 ?_ ?_ ?_ ?_|refine L4 ?_ ?_|refine L5 ?_ ?_ ?_ ?_ ?_|refine L6 ?_ ?_ ?_ ?_ ?_|refine ia_of (d:=default) ?_ ?_|refine P0 (con194) ?_ ?_ ?_|refine ACV.of (con194) ?_ ?_ ?_|refine ACK.of (con194) ?_ ?_|simp -implicitDefEqProofs only [F164,qA,ld_0,ld_pv,st_0,splice,doEqs,qU,List.reduceReplicate,Nat.reduceAdd,Nat.reduceSub,Nat.reduceLeDiff,Nat.reduceEqDiff,Nat.reduceMul,reduceIte,reduceCtorEq,qI,Nat.reduceLT,Nat.reduceBEq,up_s,Int.toNat_natCast,encT,encS,Int.natCast_zero,lm_normal,lm_exit,lm_ret,nl_s,nl_0, *]
    all_goals first
      | exact Wk.refl _
      | (exfalso; simp only [decide_eq_true_eq,decide_eq_false_iff_not] at *; omega)
      | trace_state

theorem rdy_iff {l:List Slot} {p:Int}:slotReady l p=true↔0≤p∧slotCheck l=true∧(l.getD (slotAt l p) default).stamp=p:=by
  simp only [slotReady,slotAt,Bool.and_eq_true,decide_eq_true_eq]
  constructor
  · rintro ⟨⟨h1,h2⟩,h3⟩; exact ⟨h1,h2,h3⟩
  · rintro ⟨h1,h2,h3⟩; exact ⟨⟨h1,h2⟩,h3⟩
theorem sl_len {l:List Slot} (h:slotCheck l=true):1≤l.length∧l.length≤64:=by
  simp only [slotCheck,Bool.and_eq_true,decide_eq_true_eq] at h; omega
theorem rdy_no {l:List Slot} {p:Int} (h:slotCheck l=false∨p<0):slotReady l p=false:=by
  cases hc:slotReady l p with
  | false=>rfl
  | true => have:=rdy_iff.1 hc; rcases h with h | h; · rw [h] at this; simp at this
            · omega
theorem rdy_y {l:List Slot} {p:Int} (h:slotCheck l=true) (h1:¬ p<0):slotReady l p=decide ((l.getD (posPlace p l.length).toNat default).stamp=p):=by
  unfold slotReady; rw [h,decide_eq_true (by omega)]; rfl
theorem wr_no {l:List Slot} {p v:Int} (h:slotCheck l=false∨p<0):slotWrite l p v=(l,40):=by
  unfold slotWrite; rw [if_pos]
  rcases h with h | h
  · exact .inr (by simp [h])
  · exact .inl h
theorem wr_full {l:List Slot} {p v:Int} (h:slotCheck l=true) (h1:¬ p<0) (h2:slotReady l p=false):slotWrite l p v=(l,30):=by
  unfold slotWrite; rw [if_neg (by simp only [not_or,Classical.not_not]; exact ⟨h1,h⟩),if_pos (by simp [h2])]
theorem wr_y {l:List Slot} {p v:Int} (h2:slotReady l p=true):slotWrite l p v=(l.set (slotAt l p) ⟨p,v⟩,0):=by
  have h3:=rdy_iff.1 h2
  unfold slotWrite; rw [if_neg (by simp only [not_or,Classical.not_not]; exact ⟨by omega,h3.2.1⟩),if_neg (by simp [h2]),h3.2.2]
theorem re_no {l:List Slot} {p:Int} (h:slotReady l p=false):slotRead l p=(0,40):=by
  unfold slotRead; rw [if_pos (.inr (.inr (by simp [h])))]
theorem re_y {l:List Slot} {p:Int} (h:slotReady l p=true):slotRead l p=((l.getD (slotAt l p) default).val,0):=by
  have h3:=rdy_iff.1 h
  unfold slotRead; rw [if_neg (by simp only [not_or,Classical.not_not]; exact ⟨by omega,h3.2.1,h⟩)]
theorem rl_no {l:List Slot} {p:Int} (h:slotReady l p=false∨p > 1099511627776):slotRelease l p=(l,40):=by
  unfold slotRelease
  split
  · rfl
  · rename_i h9
    simp only [not_or,Classical.not_not] at h9
    rw [if_pos]
    rcases h with h | h
    · rw [h] at h9; simp at h9
    · exact h
theorem rl_y {l:List Slot} {p:Int} (h:slotReady l p=true) (h2:¬ p > 1099511627776):slotRelease l p=(l.set (slotAt l p) ⟨p+l.length,(l.getD (slotAt l p) default).val⟩,0):=by
  have h3:=rdy_iff.1 h
  unfold slotRelease; rw [if_neg (by simp only [not_or,Classical.not_not]; exact ⟨by omega,h3.2.1,h⟩),if_neg h2,h3.2.2]
def F165:AFn:=⟨24,(.seq (.reg [o1 4 (.mv (.const (.bool false)))]) (.seq (.reg [o1 6 (.mv 0),o1 7 (.call 164 [6]),o1 5 (.mv 7)]) (.seq (.seq (.reg [o1 8 (.mv 5),o1 9 (.not 8),o1 10 (.mv 9),o4 11 (.mv 1) 10,o4 12 (.bin .lss 11 (ci 0)) 10,o1 13 (.pick 10 (.const (.bool true)) 12)]) (.cond 13 (.seq (.reg [o1 4 (.mv (.const (.bool false)))]) .ret) .skip)) (.seq (.reg [o1 14 (.mv 0),o1 15 (.mv 1),o1 16 (.mv 0),o1 17 (.len 16),o1 18 (.call 194 [15,17]),o1 19 (.iaddr 2 14 18),o1 20 (.faddr 0 19),o1 21 (.ld 1 false 20),o1 22 (.mv 1),o1 23 (.bin .eql 21 22),o1 4 (.mv 23)]) .ret)))),[(4,none)]⟩
theorem x165:xf Tryz.prog 165=some F165:=by kernel_rfl
theorem con165 {l:List Slot} {p:Int}:Con Tryz.prog 165 [.slv 2 (l.map encS),.int .i64 p] (.bool (slotReady l p),[],[]):=by
  have hlo:0≤p→0≤posPlace p l.length:=posPlace_lo p l.length
  have hhi:slotCheck l=true→posPlace p l.length<l.length:=fun h=>posPlace_hi p l.length (by have:=sl_len h; omega)
  refine mcb_of_vc mix x165 (by simp [F165]) fun hw _=>?_
  clear hw
  repeat' with_reducible first|refine gTn_of (fun h=>?_) (fun h=>?_)|refine gT_of (fun h=>?_) (fun h=>?_)|refine caseTn_of (fun h=>?_) (fun h=>?_)|refine caseT_of (fun h=>?_) (fun h=>?_)|refine FN ?_ ?_ ?_ ?_ rfl ?_|refine kv_ifn ?_ ?_|refine kv_if ?_ ?_|refine k_if ?_ ?_|refine IA ?_ ?_ ?_|refine L1 ?_ ?_|refine L2 ?_ ?_|refine L3 ?_ ?_ ?_ ?_|refine L4 ?_ ?_|refine L5 ?_ ?_ ?_ ?_ ?_|refine L6 ?_ ?_ ?_ ?_ ?_|refine ia_of (d:=default) ?_ ?_|refine ap_of (rw_slv _ _ _) (by simp -implicitDefEqProofs only [m_get,Nat.reduceEqDiff,reduceIte,if_true,if_false]; first|done|exact rfl) ?_ ?_ ?_ ?_|refine P0 (con164) ?_ ?_ ?_|refine ACV.of (con164) ?_ ?_ ?_|refine ACK.of (con164) ?_ ?_|refine P0 (con194) ?_ ?_ ?_|refine ACV.of (con194) ?_ ?_ ?_|refine ACK.of (con194) ?_ ?_|simp -implicitDefEqProofs only [F165,qA,ld_0,ld_pv,st_0,splice,doEqs,qU,List.reduceReplicate,Nat.reduceAdd,Nat.reduceSub,Nat.reduceLeDiff,Nat.reduceEqDiff,Nat.reduceMul,reduceIte,reduceCtorEq,qI,Nat.reduceLT,Nat.reduceBEq,up_s,Int.toNat_natCast,encT,encS,Int.natCast_zero,doBslice,trss_append, *]
  all_goals first
    | omega
    | exact Wk.refl _
    | exact hlo (by have:=of_decide_eq_false (by assumption:decide (p<0)=false); omega)
    | exact ⟨hlo (by have:=of_decide_eq_false (by assumption:decide (p<0)=false); omega),hhi (by assumption)⟩
    | (rw [rdy_no (.inl (by assumption))]; exact Wk.refl _)
    | (rw [rdy_no (.inr (of_decide_eq_true (by assumption)))]; exact Wk.refl _)
    | (rw [rdy_y (by assumption) (of_decide_eq_false (by assumption))]; exact Wk.refl _)
    | trace_state

def F166:AFn:=⟨19,(.seq (.reg [o1 5 (.box 145 2),o1 6 (.mv (.const .slnil))]) (.seq (.reg [o1 8 (.bslice 145 2 0 []),o1 9 (.mv 0),o1 10 (.app 145 2 16 8 9),o1 7 (.mv 10)]) (.seq (.regT [o1 11 (.mv 7),o1 12 (.mv 1),o1 13 (.mv 0),o1 14 (.len 13),o1 15 (.call 194 [12,14]),o1 16 (.ld 2 true 5),o1 17 (.iaddr 2 11 15),o2 (.st 2 17 16)] [(3,5),(4,5)]) (.seq (.reg [o1 18 (.mv 7),o1 6 (.mv 18)]) .ret)))),[(6,none)]⟩
theorem x166:xf Tryz.prog 166=some F166:=by kernel_rfl
theorem con166 {l:List Slot} {p a v:Int} (h0:0≤p) (hc:slotCheck l=true):Con Tryz.prog 166 [.slv 2 (l.map encS),.int .i64 p,.agg [.int .i64 a,.int .i64 v]] (.slv 2 ((l.set (slotAt l p) ⟨a,v⟩).map encS),[],[]):=by
  have hlo:0≤p→0≤posPlace p l.length:=posPlace_lo p l.length
  have hhi:slotCheck l=true→posPlace p l.length<l.length:=fun h=>posPlace_hi p l.length (by have:=sl_len h; omega)
  have hsl:=sl_len hc
  have ha1:=hlo h0
  have ha2:=hhi hc
  have hix:(posPlace p l.length).toNat<l.length:=by omega
  clear hlo hhi
  refine mcb_of_vc mix x166 (by simp [F166]) fun hw _=>?_
  clear hw
  repeat' with_reducible first|refine gTn_of (fun h=>?_) (fun h=>?_)|refine gT_of (fun h=>?_) (fun h=>?_)|refine caseTn_of (fun h=>?_) (fun h=>?_)|refine caseT_of (fun h=>?_) (fun h=>?_)|refine FN ?_ ?_ ?_ ?_ rfl ?_|refine kv_ifn ?_ ?_|refine kv_if ?_ ?_|refine k_if ?_ ?_|refine IA ?_ ?_ ?_|refine L1 ?_ ?_|refine L2 ?_ ?_|refine L3 ?_ ?_ ?_ ?_|refine L4 ?_ ?_|refine L5 ?_ ?_ ?_ ?_ ?_|refine L6 ?_ ?_ ?_ ?_ ?_|refine ia_of (d:=default) ?_ ?_|refine ap_of (rw_slv _ _ _) (by simp -implicitDefEqProofs only [m_get,Nat.reduceEqDiff,reduceIte,if_true,if_false]; first|done|exact rfl) ?_ ?_ ?_ ?_|refine st_row (enc:=encS) (d:=default) (y:=⟨a,v⟩) (by simp -implicitDefEqProofs only [m_get,Nat.reduceEqDiff,reduceIte,if_true,if_false]; first|done|exact rfl) ?_ ?_ ?_ ?_ (by simp -implicitDefEqProofs only [encS,splice,AV.cells,List.take_succ_cons,List.take_zero,List.drop_succ_cons,List.drop_zero,List.cons_append,List.nil_append,List.append_nil,List.length_cons,List.length_nil,Nat.reduceAdd,Nat.zero_add]; exact rfl) ?_|refine P0 (con194) ?_ ?_ ?_|refine ACV.of (con194) ?_ ?_ ?_|refine ACK.of (con194) ?_ ?_|simp -implicitDefEqProofs only [F166,qA,ld_0,ld_pv,st_0,splice,doEqs,qU,List.reduceReplicate,Nat.reduceAdd,Nat.reduceSub,Nat.reduceLeDiff,Nat.reduceEqDiff,Nat.reduceMul,reduceIte,reduceCtorEq,qI,Nat.reduceLT,Nat.reduceBEq,up_s,Int.toNat_natCast,encT,encS,Int.natCast_zero,doBslice,trss_append, *]
  all_goals first
    | omega
    | exact Wk.refl _
    | exact ⟨ha1,ha2⟩
    | exact hix
    | (simp; omega)
    | (rw [List.take_of_length_le (by simp)]; exact Wk.refl _)
    | trace_state

def F73:AFn:=⟨31,(.seq (.reg [o1 6 (.mv (.const .slnil)),o1 7 (.mv (ci 0))]) (.seq (.reg [o1 10 (.mv 0),o1 11 (.call 164 [10]),o1 8 (.mv 11)]) (.seq (.seq (.reg [o1 12 (.mv 8),o1 13 (.not 12),o1 14 (.mv 13),o4 15 (.mv 1) 14,o4 16 (.bin .lss 15 (ci 0)) 14,o1 17 (.pick 14 (.const (.bool true)) 16)]) (.cond 17 (.seq (.reg [o1 18 (.mv 0),o1 6 (.mv 18),o1 7 (.mv (ci 40))]) .ret) .skip)) (.seq (.reg [o1 19 (.mv 0),o1 20 (.mv 1),o1 21 (.call 165 [19,20]),o1 9 (.mv 21)]) (.seq (.seq (.reg [o1 22 (.mv 9),o1 23 (.not 22)]) (.cond 23 (.seq (.reg [o1 24 (.mv 0),o1 6 (.mv 24),o1 7 (.mv (ci 30))]) .ret) .skip)) (.seq (.reg [o1 25 (.mv 0),o1 26 (.mv 1),o1 27 (.mv 1),o1 28 (.mv 2),o1 29 (.build [(.int .i64 0),(.int .i64 0)] [(0,1,27),(1,1,28)]),o1 30 (.call 166 [25,26,29]),o1 6 (.mv 30),o1 7 (.mv (ci 0))]) .ret)))))),[(6,none),(7,none)]⟩
theorem x73:xf Tryz.prog 73=some F73:=by kernel_rfl
theorem con73 {l:List Slot} {p v:Int}:Con Tryz.prog 73 [.slv 2 (l.map encS),.int .i64 p,.int .i64 v] (.tup [.slv 2 ((slotWrite l p v).1.map encS),.int .i64 (slotWrite l p v).2],[],[]):=by
  refine mcb_of_vc mix x73 (by simp [F73]) fun hw _=>?_
  clear hw
  repeat' with_reducible first|refine gTn_of (fun h=>?_) (fun h=>?_)|refine gT_of (fun h=>?_) (fun h=>?_)|refine caseTn_of (fun h=>?_) (fun h=>?_)|refine caseT_of (fun h=>?_) (fun h=>?_)|refine FN ?_ ?_ ?_ ?_ rfl ?_|refine kv_ifn ?_ ?_|refine kv_if ?_ ?_|refine k_if ?_ ?_|refine IA ?_ ?_ ?_|refine L1 ?_ ?_|refine L2 ?_ ?_|refine L3 ?_ ?_ ?_ ?_|refine L4 ?_ ?_|refine L5 ?_ ?_ ?_ ?_ ?_|refine L6 ?_ ?_ ?_ ?_ ?_|refine ia_of (d:=default) ?_ ?_|refine ap_of (rw_slv _ _ _) (by simp -implicitDefEqProofs only [m_get,Nat.reduceEqDiff,reduceIte,if_true,if_false]; first|done|exact rfl) ?_ ?_ ?_ ?_|refine AC.p0 (con166 ?_ ?_) ?_ (by simp -implicitDefEqProofs only [qU,pures,AV.pure,Bool.and_true]; done) ?_ ?_|refine P0 (con164) ?_ ?_ ?_|refine ACV.of (con164) ?_ ?_ ?_|refine ACK.of (con164) ?_ ?_|refine P0 (con165) ?_ ?_ ?_|refine ACV.of (con165) ?_ ?_ ?_|refine ACK.of (con165) ?_ ?_|simp -implicitDefEqProofs only [F73,qA,ld_0,ld_pv,st_0,splice,doEqs,qU,List.reduceReplicate,Nat.reduceAdd,Nat.reduceSub,Nat.reduceLeDiff,Nat.reduceEqDiff,Nat.reduceMul,reduceIte,reduceCtorEq,qI,Nat.reduceLT,Nat.reduceBEq,up_s,Int.toNat_natCast,encT,encS,Int.natCast_zero,doBslice,trss_append, *]
  all_goals first
    | omega
    | exact Wk.refl _
    | (have:=of_decide_eq_false (by assumption:decide (p<0)=false); omega)
    | (have:=(rdy_iff.1 (by assumption:slotReady l p=true)); omega)
    | exact (rdy_iff.1 (by assumption:slotReady l p=true)).2.1
    | (rw [wr_no (.inl (by assumption))]; exact Wk.refl _)
    | (rw [wr_no (.inr (of_decide_eq_true (by assumption)))]; exact Wk.refl _)
    | (rw [wr_full (by assumption) (of_decide_eq_false (by assumption)) (by assumption)]; exact Wk.refl _)
    | (rw [wr_y (by assumption)]; exact Wk.refl _)
    | trace_state

def F93:AFn:=⟨20,(.seq (.reg [o1 4 (.mv (ci 0)),o1 5 (.mv (ci 0))]) (.seq (.reg [o1 7 (.mv 0),o1 8 (.mv 1),o1 9 (.call 165 [7,8]),o1 6 (.mv 9)]) (.seq (.seq (.reg [o1 10 (.mv 6),o1 11 (.not 10)]) (.cond 11 (.seq (.reg [o1 4 (.mv (ci 0)),o1 5 (.mv (ci 40))]) .ret) .skip)) (.seq (.reg [o1 12 (.mv 0),o1 13 (.mv 1),o1 14 (.mv 0),o1 15 (.len 14),o1 16 (.call 194 [13,15]),o1 17 (.iaddr 2 12 16),o1 18 (.faddr 1 17),o1 19 (.ld 1 false 18),o1 4 (.mv 19),o1 5 (.mv (ci 0))]) .ret)))),[(4,none),(5,none)]⟩
theorem x93:xf Tryz.prog 93=some F93:=by kernel_rfl
theorem con93 {l:List Slot} {p:Int}:Con Tryz.prog 93 [.slv 2 (l.map encS),.int .i64 p] (.tup [.int .i64 (slotRead l p).1,.int .i64 (slotRead l p).2],[],[]):=by
  have hlo:0≤p→0≤posPlace p l.length:=posPlace_lo p l.length
  have hhi:slotCheck l=true→posPlace p l.length<l.length:=fun h=>posPlace_hi p l.length (by have:=sl_len h; omega)
  refine mcb_of_vc mix x93 (by simp [F93]) fun hw _=>?_
  clear hw
  repeat' with_reducible first|refine gTn_of (fun h=>?_) (fun h=>?_)|refine gT_of (fun h=>?_) (fun h=>?_)|refine caseTn_of (fun h=>?_) (fun h=>?_)|refine caseT_of (fun h=>?_) (fun h=>?_)|refine FN ?_ ?_ ?_ ?_ rfl ?_|refine kv_ifn ?_ ?_|refine kv_if ?_ ?_|refine k_if ?_ ?_|refine IA ?_ ?_ ?_|refine L1 ?_ ?_|refine L2 ?_ ?_|refine L3 ?_ ?_ ?_ ?_|refine L4 ?_ ?_|refine L5 ?_ ?_ ?_ ?_ ?_|refine L6 ?_ ?_ ?_ ?_ ?_|refine ia_of (d:=default) ?_ ?_|refine ap_of (rw_slv _ _ _) (by simp -implicitDefEqProofs only [m_get,Nat.reduceEqDiff,reduceIte,if_true,if_false]; first|done|exact rfl) ?_ ?_ ?_ ?_|refine P0 (con165) ?_ ?_ ?_|refine ACV.of (con165) ?_ ?_ ?_|refine ACK.of (con165) ?_ ?_|refine P0 (con194) ?_ ?_ ?_|refine ACV.of (con194) ?_ ?_ ?_|refine ACK.of (con194) ?_ ?_|simp -implicitDefEqProofs only [F93,qA,ld_0,ld_pv,st_0,splice,doEqs,qU,List.reduceReplicate,Nat.reduceAdd,Nat.reduceSub,Nat.reduceLeDiff,Nat.reduceEqDiff,Nat.reduceMul,reduceIte,reduceCtorEq,qI,Nat.reduceLT,Nat.reduceBEq,up_s,Int.toNat_natCast,encT,encS,Int.natCast_zero,doBslice,trss_append, *]
  all_goals first
    | omega
    | exact Wk.refl _
    | (have h3:=(rdy_iff.1 (by assumption:slotReady l p=true)); exact ⟨hlo h3.1,hhi h3.2.1⟩)
    | (have h3:=(rdy_iff.1 (by assumption:slotReady l p=true)); exact hlo h3.1)
    | (have h3:=(rdy_iff.1 (by assumption:slotReady l p=true)); exact hhi h3.2.1)
    | (rw [re_no (by assumption)]; exact Wk.refl _)
    | (rw [re_y (by assumption)]; exact Wk.refl _)
    | trace_state

def F84:AFn:=⟨34,(.seq (.reg [o1 4 (.mv (.const .slnil)),o1 5 (.mv (ci 0))]) (.seq (.reg [o1 9 (.mv 0),o1 10 (.mv 1),o1 11 (.call 165 [9,10]),o1 6 (.mv 11)]) (.seq (.seq (.reg [o1 12 (.mv 6),o1 13 (.not 12),o1 14 (.mv 13),o4 15 (.mv 1) 14,o4 16 (.bin .gtr 15 (ci 1099511627776)) 14,o1 17 (.pick 14 (.const (.bool true)) 16)]) (.cond 17 (.seq (.reg [o1 18 (.mv 0),o1 4 (.mv 18),o1 5 (.mv (ci 40))]) .ret) .skip)) (.seq (.reg [o1 20 (.mv 0),o1 21 (.mv 1),o1 22 (.call 93 [20,21]),o1 19 (.mv 22),o1 23 (.ext 19 0),o1 24 (.ext 19 1),o1 7 (.mv 23),o1 8 (.mv 24)]) (.seq (.reg [o1 25 (.mv 0),o1 26 (.mv 1),o1 27 (.mv 1),o1 28 (.mv 0),o1 29 (.len 28),o1 30 (.bin .add 27 29),o1 31 (.mv 7),o1 32 (.build [(.int .i64 0),(.int .i64 0)] [(0,1,30),(1,1,31)]),o1 33 (.call 166 [25,26,32]),o1 4 (.mv 33),o1 5 (.mv (ci 0))]) .ret))))),[(4,none),(5,none)]⟩
theorem x84:xf Tryz.prog 84=some F84:=by kernel_rfl
theorem con84 {l:List Slot} {p:Int}:Con Tryz.prog 84 [.slv 2 (l.map encS),.int .i64 p] (.tup [.slv 2 ((slotRelease l p).1.map encS),.int .i64 (slotRelease l p).2],[],[]):=by
  refine mcb_of_vc mix x84 (by simp [F84]) fun hw _=>?_
  clear hw
  repeat' with_reducible first|refine gTn_of (fun h=>?_) (fun h=>?_)|refine gT_of (fun h=>?_) (fun h=>?_)|refine caseTn_of (fun h=>?_) (fun h=>?_)|refine caseT_of (fun h=>?_) (fun h=>?_)|refine FN ?_ ?_ ?_ ?_ rfl ?_|refine kv_ifn ?_ ?_|refine kv_if ?_ ?_|refine k_if ?_ ?_|refine IA ?_ ?_ ?_|refine L1 ?_ ?_|refine L2 ?_ ?_|refine L3 ?_ ?_ ?_ ?_|refine L4 ?_ ?_|refine L5 ?_ ?_ ?_ ?_ ?_|refine L6 ?_ ?_ ?_ ?_ ?_|refine ia_of (d:=default) ?_ ?_|refine ap_of (rw_slv _ _ _) (by simp -implicitDefEqProofs only [m_get,Nat.reduceEqDiff,reduceIte,if_true,if_false]; first|done|exact rfl) ?_ ?_ ?_ ?_|refine AC.p0 (con166 ?_ ?_) ?_ (by simp -implicitDefEqProofs only [qU,pures,AV.pure,Bool.and_true]; done) ?_ ?_|refine P0 (con165) ?_ ?_ ?_|refine ACV.of (con165) ?_ ?_ ?_|refine ACK.of (con165) ?_ ?_|refine P0 (con93) ?_ ?_ ?_|refine ACV.of (con93) ?_ ?_ ?_|refine ACK.of (con93) ?_ ?_|simp -implicitDefEqProofs only [F84,qA,ld_0,ld_pv,st_0,splice,doEqs,qU,List.reduceReplicate,Nat.reduceAdd,Nat.reduceSub,Nat.reduceLeDiff,Nat.reduceEqDiff,Nat.reduceMul,reduceIte,reduceCtorEq,qI,Nat.reduceLT,Nat.reduceBEq,up_s,Int.toNat_natCast,encT,encS,Int.natCast_zero,doBslice,trss_append, *]
  all_goals first
    | omega
    | exact Wk.refl _
    | (have:=of_decide_eq_false (by assumption:decide (p<0)=false); omega)
    | (have:=(rdy_iff.1 (by assumption:slotReady l p=true)); omega)
    | exact (rdy_iff.1 (by assumption:slotReady l p=true)).2.1
    | (rw [rl_no (.inl (by assumption))]; exact Wk.refl _)
    | (rw [rl_no (.inr (of_decide_eq_true (by assumption)))]; exact Wk.refl _)
    | (have h3:=(rdy_iff.1 (by assumption:slotReady l p=true)); have h4:=sl_len h3.2.1; have h5:=of_decide_eq_false (by assumption:decide (p > 1099511627776)=false); rw [rl_y (by assumption) h5,wrap64 (by omega) (by omega),re_y (by assumption)]; exact Wk.refl _)
    | trace_state

theorem vc6 {e:Event}:vCheck e=(lCheck e.ln && decide (e.ep≥0) && decide (e.ep≤1099511627776)):=by
  unfold vCheck; cases lCheck e.ln <;> simp
theorem vc6_t {e:Event} (h:vCheck e=true):0≤e.ep∧e.ep≤1099511627776:=by
  simp only [vCheck,Bool.and_eq_true,decide_eq_true_eq] at h; omega
theorem com_no {e:Event} {seen id:Int} (h:vCheck e=false):vCommit e seen id=(e,false,40):=by unfold vCommit; rw [if_pos (by simp [h])]
theorem com_bad {e:Event} {seen id:Int} (h:vCheck e=true) (h1:¬ (lEnter e.ln id).2=0):vCommit e seen id=(e,false,(lEnter e.ln id).2):=by unfold vCommit; rw [if_neg (by simp [h]),if_pos (.inl h1)]
theorem com_seen {e:Event} {seen id:Int} (h:vCheck e=true) (h1:(lEnter e.ln id).2=0) (h2:¬ seen=e.ep):vCommit e seen id=(e,false,0):=by unfold vCommit; rw [if_neg (by simp [h]),if_pos (.inr (fun x=>h2 x.symm)),h1]
theorem com_y {e:Event} {seen id:Int} (h:vCheck e=true) (h1:(lEnter e.ln id).2=0) (h2:seen=e.ep):vCommit e seen id=(⟨e.ep,(lEnter e.ln id).1⟩,true,0):=by unfold vCommit; rw [if_neg (by simp [h]),if_neg (by simp [h1,h2])]
theorem next6 {n:Int} (h:0≤n∧n≤1099511627776):(if n=1099511627776 then n else IntKind.wrap .i64 (n+1))=min (n+1) 1099511627776:=by
  split
  · omega
  · rw [wrap64 (by omega) (by omega)]; omega
theorem slc6_1 {f:Nat→Option Blk} {g0:Nat} {l:List Int} (h:1≤l.length):doSlc f g0 1 (.slv 1 (l.map encI)) (some (.int .i64 1)) none=some { v:=.slv 1 ((l.drop 1).map encI) }:=by
  simp only [doSlc,List.length_map]
  rw [if_pos (by simp; omega)]
  rw [List.take_of_length_le (by simp),List.map_drop]; rfl
theorem wk_nt {n:Int}:Wk (.tup [.agg [.int .i64 n,.slnil],.int .i64 0,.bool false]) (.tup [.agg [.int .i64 n,.slv 1 (([]:List Int).map encI)],.int .i64 0,.bool false]):=by
  refine Wk.tup ?_
  simp only [wks_cons,wks_nil]
  refine ⟨Wk.agg ?_,id,Wk.refl _,id,Wk.refl _,id,trivial⟩
  simp only [wks_cons,wks_nil]
  exact ⟨Wk.refl _,id,Wk.nil _,fun _=>rfl,trivial⟩
def F168:AFn:=⟨18,(.seq (.reg [o1 1 (.box 29 0),o1 2 (.mv (.const (.bool false)))]) (.seq (.reg [o1 4 (.faddr 1 1),o1 5 (.ld 1 false 4),o1 6 (.call 157 [5]),o1 3 (.mv 6)]) (.seq (.reg [o1 7 (.mv 3),o1 8 (.mv 7),o3 9 (.faddr 0 1) 8,o3 10 (.ld 1 false 9) 8,o3 11 (.bin .geq 10 (ci 0)) 8,o1 12 (.pick 8 11 (.const (.bool false))),o1 13 (.mv 12),o3 14 (.faddr 0 1) 13,o3 15 (.ld 1 false 14) 13,o3 16 (.bin .leq 15 (ci 1099511627776)) 13,o1 17 (.pick 13 16 (.const (.bool false))),o1 2 (.mv 17)]) .ret))),[(2,none)]⟩
theorem x168:xf Tryz.prog 168=some F168:=by kernel_rfl
theorem con168 {e_ep:Int} {e_ln:List Int}:Con Tryz.prog 168 [.agg [.int .i64 e_ep,.slv 1 (e_ln.map encI)]] (.bool (vCheck ⟨e_ep,e_ln⟩),[],[]):=by
  refine mcb_of_vc mix x168 (by simp [F168]) fun hw _=>?_
  clear hw
  repeat' with_reducible first|refine gTn_of (fun h=>?_) (fun h=>?_)|refine gT_of (fun h=>?_) (fun h=>?_)|refine caseTn_of (fun h=>?_) (fun h=>?_)|refine caseT_of (fun h=>?_) (fun h=>?_)|refine FN ?_ ?_ ?_ ?_ rfl ?_|refine kv_ifn ?_ ?_|refine kv_if ?_ ?_|refine k_if ?_ ?_|refine IA ?_ ?_ ?_|refine L1 ?_ ?_|refine L2 ?_ ?_|refine L3 ?_ ?_ ?_ ?_|refine L4 ?_ ?_|refine L5 ?_ ?_ ?_ ?_ ?_|refine L6 ?_ ?_ ?_ ?_ ?_|refine ia_of (d:=default) ?_ ?_|refine ap_of (rw_slv _ _ _) (by simp -implicitDefEqProofs only [m_get,Nat.reduceEqDiff,reduceIte,if_true,if_false]; first|done|exact rfl) ?_ ?_ ?_ ?_|refine ap_of (rw_slm _ _ _ _ _ _ (by simp -implicitDefEqProofs only [m_get,Nat.reduceEqDiff,reduceIte,if_true,if_false]; first|done|exact rfl) ?_) (by simp -implicitDefEqProofs only [m_get,Nat.reduceEqDiff,reduceIte,if_true,if_false]; first|done|exact rfl) ?_ ?_ ?_ ?_|refine P0 (con157) ?_ ?_ ?_|refine ACV.of (con157) ?_ ?_ ?_|refine ACK.of (con157) ?_ ?_|simp -implicitDefEqProofs only [F168,qA,ld_0,ld_pv,st_0,splice,doEqs,qU,List.reduceReplicate,Nat.reduceAdd,Nat.reduceSub,Nat.reduceLeDiff,Nat.reduceEqDiff,Nat.reduceMul,reduceIte,reduceCtorEq,qI,Nat.reduceLT,Nat.reduceBEq,up_s,Int.toNat_natCast,encT,encS,encI,Int.natCast_zero,doBslice,trss_append, *]
  all_goals first
    | omega
    | exact Wk.refl _
    | (refine Wk.of_eq ?_; rw [vc6]; simp [*]; done)
    | trace_state

def F75:AFn:=⟨10,(.seq (.reg [o1 1 (.box 29 0),o1 2 (.mv (ci 0))]) (.seq (.reg [o1 4 (.ld 2 true 1),o1 5 (.call 168 [4]),o1 3 (.mv 5)]) (.seq (.seq (.reg [o1 6 (.mv 3),o1 7 (.not 6)]) (.cond 7 (.seq (.reg [o1 2 (.mv (ci (-1)))]) .ret) .skip)) (.seq (.reg [o1 8 (.faddr 0 1),o1 9 (.ld 1 false 8),o1 2 (.mv 9)]) .ret)))),[(2,none)]⟩
theorem x75:xf Tryz.prog 75=some F75:=by kernel_rfl
theorem con75 {e_ep:Int} {e_ln:List Int}:Con Tryz.prog 75 [.agg [.int .i64 e_ep,.slv 1 (e_ln.map encI)]] (.int .i64 (vPrepare ⟨e_ep,e_ln⟩),[],[]):=by
  refine mcb_of_vc mix x75 (by simp [F75]) fun hw _=>?_
  clear hw
  repeat' with_reducible first|refine gTn_of (fun h=>?_) (fun h=>?_)|refine gT_of (fun h=>?_) (fun h=>?_)|refine caseTn_of (fun h=>?_) (fun h=>?_)|refine caseT_of (fun h=>?_) (fun h=>?_)|refine FN ?_ ?_ ?_ ?_ rfl ?_|refine kv_ifn ?_ ?_|refine kv_if ?_ ?_|refine k_if ?_ ?_|refine IA ?_ ?_ ?_|refine L1 ?_ ?_|refine L2 ?_ ?_|refine L3 ?_ ?_ ?_ ?_|refine L4 ?_ ?_|refine L5 ?_ ?_ ?_ ?_ ?_|refine L6 ?_ ?_ ?_ ?_ ?_|refine ia_of (d:=default) ?_ ?_|refine ap_of (rw_slv _ _ _) (by simp -implicitDefEqProofs only [m_get,Nat.reduceEqDiff,reduceIte,if_true,if_false]; first|done|exact rfl) ?_ ?_ ?_ ?_|refine ap_of (rw_slm _ _ _ _ _ _ (by simp -implicitDefEqProofs only [m_get,Nat.reduceEqDiff,reduceIte,if_true,if_false]; first|done|exact rfl) ?_) (by simp -implicitDefEqProofs only [m_get,Nat.reduceEqDiff,reduceIte,if_true,if_false]; first|done|exact rfl) ?_ ?_ ?_ ?_|refine P0 (con168) ?_ ?_ ?_|refine ACV.of (con168) ?_ ?_ ?_|refine ACK.of (con168) ?_ ?_|simp -implicitDefEqProofs only [F75,qA,ld_0,ld_pv,st_0,splice,doEqs,qU,List.reduceReplicate,Nat.reduceAdd,Nat.reduceSub,Nat.reduceLeDiff,Nat.reduceEqDiff,Nat.reduceMul,reduceIte,reduceCtorEq,qI,Nat.reduceLT,Nat.reduceBEq,up_s,Int.toNat_natCast,encT,encS,encI,Int.natCast_zero,doBslice,trss_append, *]
  all_goals first
    | omega
    | exact Wk.refl _
    | (refine Wk.of_eq ?_; simp [vPrepare, *]; done)
    | trace_state

def F171:AFn:=⟨37,(.seq (.reg [o1 3 (.box 29 0),o1 6 (.alloc 29 [(.int .i64 0),.slnil]),o1 7 (.mv (.const (.bool false))),o1 8 (.mv (ci 0))]) (.seq (.reg [o1 12 (.ld 2 true 3),o1 13 (.call 168 [12]),o1 9 (.mv 13)]) (.seq (.seq (.reg [o1 14 (.mv 9),o1 15 (.not 14)]) (.cond 15 (.seq (.reg [o1 16 (.ld 2 true 3),o2 (.st 2 6 16),o1 7 (.mv (.const (.bool false))),o1 8 (.mv (ci 40))]) .ret) .skip)) (.seq (.reg [o1 18 (.faddr 1 3),o1 19 (.ld 1 false 18),o1 20 (.mv 2),o1 21 (.call 69 [19,20]),o1 17 (.mv 21),o1 22 (.ext 17 0),o1 23 (.ext 17 1),o1 10 (.mv 22),o1 11 (.mv 23)]) (.seq (.seq (.reg [o1 24 (.mv 11),o1 25 (.bin .neq 24 (ci 0))]) (.cond 25 (.seq (.reg [o1 26 (.ld 2 true 3),o1 27 (.mv 11),o2 (.st 2 6 26),o1 7 (.mv (.const (.bool false))),o1 8 (.mv 27)]) .ret) .skip)) (.seq (.seq (.reg [o1 28 (.mv 1),o1 29 (.faddr 0 3),o1 30 (.ld 1 false 29),o1 31 (.bin .neq 28 30)]) (.cond 31 (.seq (.reg [o1 32 (.ld 2 true 3),o2 (.st 2 6 32),o1 7 (.mv (.const (.bool false))),o1 8 (.mv (ci 0))]) .ret) .skip)) (.seq (.reg [o1 33 (.faddr 0 3),o1 34 (.ld 1 false 33),o1 35 (.mv 10),o1 36 (.build [(.int .i64 0),.slnil] [(0,1,34),(1,1,35)]),o2 (.st 2 6 36),o1 7 (.mv (.const (.bool true))),o1 8 (.mv (ci 0))]) .ret))))))),[(6,some (2,true)),(7,none),(8,none)]⟩
theorem x171:xf Tryz.prog 171=some F171:=by kernel_rfl
theorem con171 {e_ep:Int} {e_ln:List Int} {seen id:Int} (hl:e_ln.length≤1000000):Con Tryz.prog 171 [.agg [.int .i64 e_ep,.slv 1 (e_ln.map encI)],.int .i64 seen,.int .i64 id] (.tup [.agg (encV (vCommit ⟨e_ep,e_ln⟩ seen id).1),.bool (vCommit ⟨e_ep,e_ln⟩ seen id).2.1,.int .i64 (vCommit ⟨e_ep,e_ln⟩ seen id).2.2],[],[]):=by
  refine mcb_of_vc mix x171 (by simp [F171]) fun hw _=>?_
  clear hw
  repeat' with_reducible first|refine gTn_of (fun h=>?_) (fun h=>?_)|refine gT_of (fun h=>?_) (fun h=>?_)|refine caseTn_of (fun h=>?_) (fun h=>?_)|refine caseT_of (fun h=>?_) (fun h=>?_)|refine FN ?_ ?_ ?_ ?_ rfl ?_|refine kv_ifn ?_ ?_|refine kv_if ?_ ?_|refine k_if ?_ ?_|refine IA ?_ ?_ ?_|refine L1 ?_ ?_|refine L2 ?_ ?_|refine L3 ?_ ?_ ?_ ?_|refine L4 ?_ ?_|refine L5 ?_ ?_ ?_ ?_ ?_|refine L6 ?_ ?_ ?_ ?_ ?_|refine ia_of (d:=default) ?_ ?_|refine ap_of (rw_slv _ _ _) (by simp -implicitDefEqProofs only [m_get,Nat.reduceEqDiff,reduceIte,if_true,if_false]; first|done|exact rfl) ?_ ?_ ?_ ?_|refine ap_of (rw_slm _ _ _ _ _ _ (by simp -implicitDefEqProofs only [m_get,Nat.reduceEqDiff,reduceIte,if_true,if_false]; first|done|exact rfl) ?_) (by simp -implicitDefEqProofs only [m_get,Nat.reduceEqDiff,reduceIte,if_true,if_false]; first|done|exact rfl) ?_ ?_ ?_ ?_|refine P0 (con168) ?_ ?_ ?_|refine ACV.of (con168) ?_ ?_ ?_|refine ACK.of (con168) ?_ ?_|refine P0 (con69 ?_) ?_ ?_ ?_|refine ACV.of (con69 ?_) ?_ ?_ ?_|refine ACK.of (con69 ?_) ?_ ?_|simp -implicitDefEqProofs only [F171,qA,ld_0,ld_pv,st_0,splice,doEqs,qU,List.reduceReplicate,Nat.reduceAdd,Nat.reduceSub,Nat.reduceLeDiff,Nat.reduceEqDiff,Nat.reduceMul,reduceIte,reduceCtorEq,qI,Nat.reduceLT,Nat.reduceBEq,up_s,Int.toNat_natCast,encT,encS,encI,Int.natCast_zero,doBslice,trss_append, *]
  all_goals first
    | omega
    | exact Wk.refl _
    | (rw [com_no (by assumption)]; exact Wk.refl _)
    | (rw [com_bad (by assumption) (of_decide_eq_false (by assumption))]; exact Wk.refl _)
    | (rw [com_seen (by assumption) (of_decide_eq_true (by assumption)) (of_decide_eq_false (by assumption))]; exact Wk.refl _)
    | (rw [com_y (by assumption) (of_decide_eq_true (by assumption)) (of_decide_eq_true (by assumption))]; exact Wk.refl _)
    | trace_state

def F77:AFn:=⟨32,(.seq (.reg [o1 1 (.box 29 0),o1 2 (.alloc 29 [(.int .i64 0),.slnil]),o1 3 (.mv (ci 0)),o1 4 (.mv (.const (.bool false)))]) (.seq (.reg [o1 6 (.ld 2 true 1),o1 7 (.call 168 [6]),o1 5 (.mv 7)]) (.seq (.seq (.reg [o1 8 (.mv 5),o1 9 (.not 8)]) (.cond 9 (.seq (.reg [o1 10 (.ld 2 true 1),o2 (.st 2 2 10),o1 3 (.mv (ci 0)),o1 4 (.mv (.const (.bool false)))]) .ret) .skip)) (.seq (.seq (.reg [o1 11 (.faddr 1 1),o1 12 (.ld 1 false 11),o1 13 (.len 12),o1 14 (.bin .eql 13 (ci 0))]) (.cond 14 (.seq (.reg [o1 15 (.faddr 0 1),o1 16 (.ld 1 false 15),o1 17 (.call 169 [16]),o1 18 (.build [(.int .i64 0),.slnil] [(0,1,17)]),o2 (.st 2 2 18),o1 3 (.mv (ci 0)),o1 4 (.mv (.const (.bool false)))]) .ret) .skip)) (.seq (.regT [o1 19 (.faddr 0 1),o1 20 (.ld 1 false 19),o1 21 (.call 169 [20]),o1 22 (.bslice 3 1 0 []),o1 23 (.faddr 1 1),o1 24 (.ld 1 false 23),o1 25 (.slc 1 24 (some (ci 1)) none),o1 26 (.app 3 1 8 22 25),o1 27 (.build [(.int .i64 0),.slnil] [(0,1,21),(1,1,26)]),o1 28 (.faddr 1 1),o1 29 (.ld 1 false 28),o1 30 (.iaddr 1 29 (ci 0)),o1 31 (.ld 1 false 30),o2 (.st 2 2 27),o1 3 (.mv 31),o1 4 (.mv (.const (.bool true)))] [(0,3),(1,3),(2,3),(0,4),(1,4),(2,4),(3,4),(0,5),(1,5),(2,5),(3,5),(0,6),(1,6),(2,6),(3,6),(0,9),(1,9),(2,9),(3,9),(4,9),(5,9),(6,9),(7,9),(0,10),(1,10),(2,10),(3,10),(4,10),(5,10),(6,10),(7,10),(0,11),(1,11),(2,11),(3,11),(4,11),(5,11),(6,11),(7,11),(0,12),(1,12),(2,12),(3,12),(4,12),(5,12),(6,12),(7,12),(9,13),(10,13),(11,13),(12,13)]) .ret))))),[(2,some (2,true)),(3,none),(4,none)]⟩
theorem x77:xf Tryz.prog 77=some F77:=by kernel_rfl
theorem con77 {e_ep:Int} {e_ln:List Int} (hl:e_ln.length≤1000000):Con Tryz.prog 77 [.agg [.int .i64 e_ep,.slv 1 (e_ln.map encI)]] (.tup [.agg (encV (vNotify ⟨e_ep,e_ln⟩).1),.int .i64 (vNotify ⟨e_ep,e_ln⟩).2.1,.bool (vNotify ⟨e_ep,e_ln⟩).2.2],[],[]):=by
  by_cases hv:vCheck ⟨e_ep,e_ln⟩=true
  · have hx:=next6 (vc6_t hv)
    simp only [] at hx
    by_cases h0:e_ln.length=0
    · rw [show vNotify ⟨e_ep,e_ln⟩=(⟨min (e_ep+1) 1099511627776,[]⟩,0,false) from by obtain rfl:=List.eq_nil_of_length_eq_zero h0; simp [vNotify,hv]]
      generalize min (e_ep+1) 1099511627776=ep at hx ⊢
      have hd:((e_ln.length:Int)=0)=True:=by simp [h0]
      clear h0
      refine mcb_of_vc mix x77 (by simp [F77]) fun hw _=>?_
      clear hw
      repeat' with_reducible first|refine gTn_of (fun h=>?_) (fun h=>?_)|refine gT_of (fun h=>?_) (fun h=>?_)|refine caseTn_of (fun h=>?_) (fun h=>?_)|refine caseT_of (fun h=>?_) (fun h=>?_)|refine FN ?_ ?_ ?_ ?_ rfl ?_|refine kv_ifn ?_ ?_|refine kv_if ?_ ?_|refine k_if ?_ ?_|refine IA ?_ ?_ ?_|refine L1 ?_ ?_|refine L2 ?_ ?_|refine L3 ?_ ?_ ?_ ?_|refine L4 ?_ ?_|refine L5 ?_ ?_ ?_ ?_ ?_|refine L6 ?_ ?_ ?_ ?_ ?_|refine ia_of (d:=default) ?_ ?_|refine ap_of (rw_slv _ _ _) (by simp -implicitDefEqProofs only [m_get,Nat.reduceEqDiff,reduceIte,if_true,if_false]; first|done|exact rfl) ?_ ?_ ?_ ?_|refine ap_of (rw_slm _ _ _ _ _ _ (by simp -implicitDefEqProofs only [m_get,Nat.reduceEqDiff,reduceIte,if_true,if_false]; first|done|exact rfl) ?_) (by simp -implicitDefEqProofs only [m_get,Nat.reduceEqDiff,reduceIte,if_true,if_false]; first|done|exact rfl) ?_ ?_ ?_ ?_|refine P0 (con168) ?_ ?_ ?_|refine ACV.of (con168) ?_ ?_ ?_|refine ACK.of (con168) ?_ ?_|refine P0 (con169) ?_ ?_ ?_|refine ACV.of (con169) ?_ ?_ ?_|refine ACK.of (con169) ?_ ?_|simp -implicitDefEqProofs only [F77,qA,ld_0,ld_pv,st_0,splice,doEqs,qU,List.reduceReplicate,Nat.reduceAdd,Nat.reduceSub,Nat.reduceLeDiff,Nat.reduceEqDiff,Nat.reduceMul,reduceIte,reduceCtorEq,qI,Nat.reduceLT,Nat.reduceBEq,up_s,Int.toNat_natCast,encT,encS,Int.natCast_zero,doBslice,trss_append,encV, *]
      all_goals first
        | exact wk_nt
        | trace_state
    · obtain ⟨x,l,hX⟩:∃ x l,e_ln=x :: l:=by cases e_ln with
        | nil=>exact absurd rfl h0
        | cons x l=>exact ⟨x,l,rfl⟩
      rw [show vNotify ⟨e_ep,e_ln⟩=(⟨min (e_ep+1) 1099511627776,l⟩,x,true) from by subst hX; simp [vNotify,hv]]
      generalize min (e_ep+1) 1099511627776=ep at hx ⊢
      have hX1:1≤e_ln.length:=by omega
      have hd:((e_ln.length:Int)=0)=False:=by simp only [eq_iff_iff,iff_false]; omega
      have hg:e_ln.getD 0 default=x:=by rw [hX]; rfl
      have hdr:e_ln.drop 1=l:=by rw [hX]; rfl
      have hlt:l.length≤1000000:=by have h5:=congrArg List.length hdr; simp only [List.length_drop] at h5; omega
      clear hX h0
      refine mcb_of_vc mix x77 (by simp [F77]) fun hw _=>?_
      clear hw
      repeat' with_reducible first|refine gTn_of (fun h=>?_) (fun h=>?_)|refine gT_of (fun h=>?_) (fun h=>?_)|refine caseTn_of (fun h=>?_) (fun h=>?_)|refine caseT_of (fun h=>?_) (fun h=>?_)|refine FN ?_ ?_ ?_ ?_ rfl ?_|refine kv_ifn ?_ ?_|refine kv_if ?_ ?_|refine k_if ?_ ?_|refine IA ?_ ?_ ?_|refine L1 ?_ ?_|refine L2 ?_ ?_|refine L3 ?_ ?_ ?_ ?_|refine L4 ?_ ?_|refine L5 ?_ ?_ ?_ ?_ ?_|refine L6 ?_ ?_ ?_ ?_ ?_|refine ia_of (d:=default) ?_ ?_|refine ap_of (rw_slv _ _ _) (by simp -implicitDefEqProofs only [m_get,Nat.reduceEqDiff,reduceIte,if_true,if_false]; first|done|exact rfl) ?_ ?_ ?_ ?_|refine ap_of (rw_slm _ _ _ _ _ _ (by simp -implicitDefEqProofs only [m_get,Nat.reduceEqDiff,reduceIte,if_true,if_false]; first|done|exact rfl) ?_) (by simp -implicitDefEqProofs only [m_get,Nat.reduceEqDiff,reduceIte,if_true,if_false]; first|done|exact rfl) ?_ ?_ ?_ ?_|refine P0 (con168) ?_ ?_ ?_|refine ACV.of (con168) ?_ ?_ ?_|refine ACK.of (con168) ?_ ?_|refine P0 (con169) ?_ ?_ ?_|refine ACV.of (con169) ?_ ?_ ?_|refine ACK.of (con169) ?_ ?_|simp -implicitDefEqProofs only [F77,qA,ld_0,ld_pv,st_0,splice,doEqs,qU,List.reduceReplicate,Nat.reduceAdd,Nat.reduceSub,Nat.reduceLeDiff,Nat.reduceEqDiff,Nat.reduceMul,reduceIte,reduceCtorEq,qI,Nat.reduceLT,Nat.reduceBEq,up_s,Int.toNat_natCast,encT,encS,Int.natCast_zero,doBslice,trss_append,slc6_1 hX1,encV,encI,Int.toNat_zero, *]
      all_goals first
        | omega
        | exact Wk.refl _
        | (rw [List.take_of_length_le (by simp)]; exact Wk.refl _)
        | trace_state
  · have hv':vCheck ⟨e_ep,e_ln⟩=false:=by simpa using hv
    rw [show vNotify ⟨e_ep,e_ln⟩=(⟨e_ep,e_ln⟩,0,false) from by simp [vNotify,hv]]
    refine mcb_of_vc mix x77 (by simp [F77]) fun hw _=>?_
    clear hw
    repeat' with_reducible first|refine gTn_of (fun h=>?_) (fun h=>?_)|refine gT_of (fun h=>?_) (fun h=>?_)|refine caseTn_of (fun h=>?_) (fun h=>?_)|refine caseT_of (fun h=>?_) (fun h=>?_)|refine FN ?_ ?_ ?_ ?_ rfl ?_|refine kv_ifn ?_ ?_|refine kv_if ?_ ?_|refine k_if ?_ ?_|refine IA ?_ ?_ ?_|refine L1 ?_ ?_|refine L2 ?_ ?_|refine L3 ?_ ?_ ?_ ?_|refine L4 ?_ ?_|refine L5 ?_ ?_ ?_ ?_ ?_|refine L6 ?_ ?_ ?_ ?_ ?_|refine ia_of (d:=default) ?_ ?_|refine ap_of (rw_slv _ _ _) (by simp -implicitDefEqProofs only [m_get,Nat.reduceEqDiff,reduceIte,if_true,if_false]; first|done|exact rfl) ?_ ?_ ?_ ?_|refine ap_of (rw_slm _ _ _ _ _ _ (by simp -implicitDefEqProofs only [m_get,Nat.reduceEqDiff,reduceIte,if_true,if_false]; first|done|exact rfl) ?_) (by simp -implicitDefEqProofs only [m_get,Nat.reduceEqDiff,reduceIte,if_true,if_false]; first|done|exact rfl) ?_ ?_ ?_ ?_|refine P0 (con168) ?_ ?_ ?_|refine ACV.of (con168) ?_ ?_ ?_|refine ACK.of (con168) ?_ ?_|refine P0 (con169) ?_ ?_ ?_|refine ACV.of (con169) ?_ ?_ ?_|refine ACK.of (con169) ?_ ?_|simp -implicitDefEqProofs only [F77,qA,ld_0,ld_pv,st_0,splice,doEqs,qU,List.reduceReplicate,Nat.reduceAdd,Nat.reduceSub,Nat.reduceLeDiff,Nat.reduceEqDiff,Nat.reduceMul,reduceIte,reduceCtorEq,qI,Nat.reduceLT,Nat.reduceBEq,up_s,Int.toNat_natCast,encT,encS,Int.natCast_zero,doBslice,trss_append, *]
    all_goals first
      | exact Wk.refl _
      | trace_state

def F254:AFn:=⟨17,(.seq (.reg [o1 1 (.box 23 0),o1 2 (.mv (ci 0))]) (.seq (.seq (.reg [o1 5 (.ld 7 true 1),o1 6 (.call 245 [5]),o1 7 (.bin .neq 6 (ci 0))]) (.cond 7 (.seq (.reg [o1 2 (.mv (ci 0))]) .ret) .skip)) (.seq (.reg [o1 3 (.mv (ci 1))]) (.seq (.seq (.reg [o1 4 (.mv (ci 0))]) (.block 0 (.loop (.seq (.seq (.reg [o1 8 (.mv 4),o1 9 (.faddr 0 1),o1 10 (.ld 1 false 9),o1 11 (.bin .lss 8 10)]) (.cond 11 .skip (.exit 0))) (.seq (.block 1 (.reg [o1 14 (.mv 3),o1 15 (.bin .mul (ci 2) 14),o1 3 (.mv 15)])) (.reg [o1 12 (.mv 4),o1 13 (.bin .add 12 (ci 1)),o1 4 (.mv 13)])))))) (.seq (.reg [o1 16 (.mv 3),o1 2 (.mv 16)]) .ret))))),[(2,none)]⟩
theorem x254:xf Tryz.prog 254=some F254:=by kernel_rfl
theorem pow6 {i:Nat} (h:i≤6):IntKind.wrap .i64 (2 * 2 ^ i)=(2:Int) ^ (i+1):=by
  rw [Int.pow_succ,Int.mul_comm]
  have:i=0∨i=1∨i=2∨i=3∨i=4∨i=5∨i=6:=by omega
  rcases this with e | e | e | e | e | e | e <;> subst e <;> decide
theorem room6 {c:Config} (h:confCheck c=0):1≤c.lg∧c.lg≤6∧confRoom c=2 ^ c.lg.toNat:=by
  have h1:=conf_lg h
  refine ⟨h1.1,h1.2,?_⟩
  unfold confCheck at h
  split at h
  · rename_i hc; rw [confRoom,if_pos hc]
  · cases h
def among6 (l:List Int) (n:Int) (i:Nat):Prop:=∀ j,j<i→l.getD j default<n
theorem am6_t {l:List Int} {n:Int} (h:among6 l n l.length):amongOk n l=lCheck l:=by
  unfold amongOk
  cases hc:lCheck l with
  | false=>rfl
  | true =>
    rw [lCheck_iff] at hc
    simp only [Bool.true_and,Bool.not_eq_true',List.any_eq_false,Bool.or_eq_true,decide_eq_true_eq,not_or]
    intro x hx
    obtain ⟨i,hi,rfl⟩:=List.getElem_of_mem hx
    have h1:=h i hi
    have h2:=hc.2 _ hx
    simp only [List.getD_eq_getElem?_getD,List.getElem?_eq_getElem hi,Option.getD_some] at h1
    omega
theorem am6_f {l:List Int} {n:Int} {i:Nat} (hi:i<l.length) (h:l.getD i default≥n):amongOk n l=false:=by
  unfold amongOk
  have:l.any (fun id=>decide (id<0) || decide (id≥n))=true:=List.any_eq_true.2 ⟨_,getD_mem (d:=default) hi,by simp; exact .inr h⟩
  rw [this]; simp
theorem am6_s {l:List Int} {n:Int} {i:Nat} (h:among6 l n i) (h1:l.getD i default<n):among6 l n (i+1):=fun j hj=>by
  rcases Nat.lt_or_eq_of_le (Nat.le_of_lt_succ hj) with h9 | h9
  · exact h j h9
  · subst h9; exact h1
theorem con254 {c_lg c_th c_pol c_wt c_spin c_yld:Int} {c_single:Bool}:Con Tryz.prog 254 [.agg [.int .i64 c_lg,.int .i64 c_th,.int .i64 c_pol,.int .i64 c_wt,.int .i64 c_spin,.int .i64 c_yld,.bool c_single]] (.int .i64 (confRoom ⟨c_lg,c_th,c_pol,c_wt,c_spin,c_yld,c_single⟩),[],[]):=by
  by_cases hc:confCheck ⟨c_lg,c_th,c_pol,c_wt,c_spin,c_yld,c_single⟩=0
  · obtain ⟨g1,g2,g3⟩:=room6 hc
    rw [g3]
    simp only [] at g1 g2
    obtain ⟨k,rfl⟩:∃ k:Nat,c_lg=(k:Int):=⟨c_lg.toNat,by omega⟩
    clear g3
    refine mcb_of_vc mix x254 (by simp [F254]) fun hw _=>?_
    clear hw
    repeat' with_reducible first|refine gTn_of (fun h=>?_) (fun h=>?_)|refine gT_of (fun h=>?_) (fun h=>?_)|refine caseTn_of (fun h=>?_) (fun h=>?_)|refine caseT_of (fun h=>?_) (fun h=>?_)|refine FN ?_ ?_ ?_ ?_ rfl ?_|refine kv_ifn ?_ ?_|refine kv_if ?_ ?_|refine k_if ?_ ?_|refine IA ?_ ?_ ?_|refine L1 ?_ ?_|refine L2 ?_ ?_|refine L3 ?_ ?_ ?_ ?_|refine L4 ?_ ?_|refine L5 ?_ ?_ ?_ ?_ ?_|refine L6 ?_ ?_ ?_ ?_ ?_|refine ia_of (d:=default) ?_ ?_|refine P0 (con245) ?_ ?_ ?_|refine ACV.of (con245) ?_ ?_ ?_|refine ACK.of (con245) ?_ ?_|simp -implicitDefEqProofs only [F254,qA,ld_0,ld_pv,st_0,splice,doEqs,qU,List.reduceReplicate,Nat.reduceAdd,Nat.reduceSub,Nat.reduceLeDiff,Nat.reduceEqDiff,Nat.reduceMul,reduceIte,reduceCtorEq,qI,Nat.reduceLT,Nat.reduceBEq,up_s,Int.toNat_natCast,encT,encI,Int.natCast_zero,lm_normal,lm_exit,lm_ret,nl_s,nl_0, *]
    all_goals first
      | refine lm_of 5 (fun i:Nat=>nl 1 (some (.ptr 2 0 0) :: nl 1 (some (.int .i64 (2 ^ i)) :: some (.int .i64 i) :: nl 12 []))) (fun _=>[(2,.rows 23 7 [[.int .i64 (k:Int),.int .i64 c_th,.int .i64 c_pol,.int .i64 c_wt,.int .i64 c_spin,.int .i64 c_yld,.bool c_single]])]) (fun i=>i≤k) (fun i=>k - i) [] [(1,2)] 0 (by omega) ?_ ?_ ?_ ?_ ?_ ?_
      | trace_state
    rotate_right
    · intro i hi
      simp only [all_some,all_none,all_nil,nl_s,nl_0]
      intros
      repeat' with_reducible first|refine gTn_of (fun h=>?_) (fun h=>?_)|refine gT_of (fun h=>?_) (fun h=>?_)|refine caseTn_of (fun h=>?_) (fun h=>?_)|refine caseT_of (fun h=>?_) (fun h=>?_)|refine FN ?_ ?_ ?_ ?_ rfl ?_|refine kv_ifn ?_ ?_|refine kv_if ?_ ?_|refine k_if ?_ ?_|refine IA ?_ ?_ ?_|refine L1 ?_ ?_|refine L2 ?_ ?_|refine L3 ?_ ?_ ?_ ?_|refine L4 ?_ ?_|refine L5 ?_ ?_ ?_ ?_ ?_|refine L6 ?_ ?_ ?_ ?_ ?_|refine ia_of (d:=default) ?_ ?_|refine rm_of [] [(2,2)] (i+1) ?_ ?_ ?_ ?_ ?_ ?_|simp -implicitDefEqProofs only [F254,qA,ld_0,ld_pv,st_0,splice,doEqs,qU,List.reduceReplicate,Nat.reduceAdd,Nat.reduceSub,Nat.reduceLeDiff,Nat.reduceEqDiff,Nat.reduceMul,reduceIte,reduceCtorEq,qI,Nat.reduceLT,Nat.reduceBEq,up_s,Int.toNat_natCast,encT,encI,Int.natCast_zero,lm_normal,lm_exit,lm_ret,nl_s,nl_0, *]
      all_goals first
        | (have hlt:=of_decide_eq_true (by assumption:decide ((i:Int)<(k:Int))=true)
           first
           | omega
           | exact ⟨pow6 (by omega),by rw [wrap64 (by omega) (by omega)]; omega⟩
           | exact pow6 (by omega)
           | (rw [wrap64 (by omega) (by omega)]; omega))
        | (have hlt:=of_decide_eq_false (by assumption:decide ((i:Int)<(k:Int))=false)
           obtain rfl:i=k:=by omega
           exact Wk.refl _)
        | trace_state
    all_goals first
      | omega
      | (simp -implicitDefEqProofs only [qA,ld_0,ld_pv,st_0,splice,doEqs,qU,List.reduceReplicate,Nat.reduceAdd,Nat.reduceSub,Nat.reduceLeDiff,Nat.reduceEqDiff,Nat.reduceMul,reduceIte,reduceCtorEq,qI,Nat.reduceLT,Nat.reduceBEq,qZ,nl_s,nl_0]; first | done | (simp; done))
      | trace_state
  · rw [conf_no hc]
    refine mcb_of_vc mix x254 (by simp [F254]) fun hw _=>?_
    clear hw
    repeat' with_reducible first|refine gTn_of (fun h=>?_) (fun h=>?_)|refine gT_of (fun h=>?_) (fun h=>?_)|refine caseTn_of (fun h=>?_) (fun h=>?_)|refine caseT_of (fun h=>?_) (fun h=>?_)|refine FN ?_ ?_ ?_ ?_ rfl ?_|refine kv_ifn ?_ ?_|refine kv_if ?_ ?_|refine k_if ?_ ?_|refine IA ?_ ?_ ?_|refine L1 ?_ ?_|refine L2 ?_ ?_|refine L3 ?_ ?_ ?_ ?_|refine L4 ?_ ?_|refine L5 ?_ ?_ ?_ ?_ ?_|refine L6 ?_ ?_ ?_ ?_ ?_|refine ia_of (d:=default) ?_ ?_|refine P0 (con245) ?_ ?_ ?_|refine ACV.of (con245) ?_ ?_ ?_|refine ACK.of (con245) ?_ ?_|simp -implicitDefEqProofs only [F254,qA,ld_0,ld_pv,st_0,splice,doEqs,qU,List.reduceReplicate,Nat.reduceAdd,Nat.reduceSub,Nat.reduceLeDiff,Nat.reduceEqDiff,Nat.reduceMul,reduceIte,reduceCtorEq,qI,Nat.reduceLT,Nat.reduceBEq,up_s,Int.toNat_natCast,encT,encI,Int.natCast_zero,lm_normal,lm_exit,lm_ret,nl_s,nl_0, *]
    all_goals first
      | exact Wk.refl _
      | trace_state

def F256:AFn:=⟨20,(.seq (.reg [o1 4 (.mv (.const (.bool false)))]) (.seq (.seq (.reg [o1 5 (.mv (ci 0))]) (.block 0 (.loop (.seq (.seq (.reg [o1 6 (.mv 5),o1 7 (.mv 0),o1 8 (.len 7),o1 9 (.bin .lss 6 8)]) (.cond 9 .skip (.exit 0))) (.seq (.block 1 (.seq (.reg [o1 12 (.mv 0),o1 13 (.mv 5),o1 14 (.iaddr 1 12 13),o1 15 (.ld 1 false 14),o1 16 (.mv 1),o1 17 (.bin .geq 15 16)]) (.cond 17 (.seq (.reg [o1 4 (.mv (.const (.bool false)))]) .ret) .skip))) (.reg [o1 10 (.mv 5),o1 11 (.bin .add 10 (ci 1)),o1 5 (.mv 11)])))))) (.seq (.reg [o1 18 (.mv 0),o1 19 (.call 157 [18]),o1 4 (.mv 19)]) .ret))),[(4,none)]⟩
theorem x256:xf Tryz.prog 256=some F256:=by kernel_rfl
theorem con256 {l:List Int} {n:Int}:Con Tryz.prog 256 [.slv 1 (l.map encI),.int .i64 n] (.bool (amongOk n l),[],[]):=by
  refine mcb_of_vc mix x256 (by simp [F256]) fun hw _=>?_
  simp only [wfs,AV.wf,inR_i64,List.length_map,maxLen_eq] at hw
  have hwl:=hw.1.1
  clear hw
  repeat' with_reducible first|refine gTn_of (fun h=>?_) (fun h=>?_)|refine gT_of (fun h=>?_) (fun h=>?_)|refine caseTn_of (fun h=>?_) (fun h=>?_)|refine caseT_of (fun h=>?_) (fun h=>?_)|refine FN ?_ ?_ ?_ ?_ rfl ?_|refine kv_ifn ?_ ?_|refine kv_if ?_ ?_|refine k_if ?_ ?_|refine IA ?_ ?_ ?_|refine L1 ?_ ?_|refine L2 ?_ ?_|refine L3 ?_ ?_ ?_ ?_|refine L4 ?_ ?_|refine L5 ?_ ?_ ?_ ?_ ?_|refine L6 ?_ ?_ ?_ ?_ ?_|refine ia_of (d:=default) ?_ ?_|refine P0 (con157) ?_ ?_ ?_|refine ACV.of (con157) ?_ ?_ ?_|refine ACK.of (con157) ?_ ?_|simp -implicitDefEqProofs only [F256,qA,ld_0,ld_pv,st_0,splice,doEqs,qU,List.reduceReplicate,Nat.reduceAdd,Nat.reduceSub,Nat.reduceLeDiff,Nat.reduceEqDiff,Nat.reduceMul,reduceIte,reduceCtorEq,qI,Nat.reduceLT,Nat.reduceBEq,up_s,Int.toNat_natCast,encT,encI,Int.natCast_zero,lm_normal,lm_exit,lm_ret,nl_s,nl_0, *]
  all_goals first
    | refine lm_of 5 (fun i:Nat=>some (.slv 1 (l.map encI)) :: some (.int .i64 n) :: nl 3 (some (.int .i64 i) :: nl 14 [])) (fun _=>[]) (fun i=>i≤l.length∧among6 l n i) (fun i=>l.length - i) [] [] 0 (by omega) ?_ ?_ ?_ ?_ ?_ ?_
    | trace_state
  rotate_right
  · rintro i ⟨hi,hJ⟩
    simp only [all_some,all_none,all_nil,nl_s,nl_0]
    intros
    repeat' with_reducible first|refine gTn_of (fun h=>?_) (fun h=>?_)|refine gT_of (fun h=>?_) (fun h=>?_)|refine caseTn_of (fun h=>?_) (fun h=>?_)|refine caseT_of (fun h=>?_) (fun h=>?_)|refine FN ?_ ?_ ?_ ?_ rfl ?_|refine kv_ifn ?_ ?_|refine kv_if ?_ ?_|refine k_if ?_ ?_|refine IA ?_ ?_ ?_|refine L1 ?_ ?_|refine L2 ?_ ?_|refine L3 ?_ ?_ ?_ ?_|refine L4 ?_ ?_|refine L5 ?_ ?_ ?_ ?_ ?_|refine L6 ?_ ?_ ?_ ?_ ?_|refine ia_of (d:=default) ?_ ?_|refine rm_of [] [] (i+1) ?_ ?_ ?_ ?_ ?_ ?_|refine P0 (con157) ?_ ?_ ?_|refine ACV.of (con157) ?_ ?_ ?_|refine ACK.of (con157) ?_ ?_|simp -implicitDefEqProofs only [F256,qA,ld_0,ld_pv,st_0,splice,doEqs,qU,List.reduceReplicate,Nat.reduceAdd,Nat.reduceSub,Nat.reduceLeDiff,Nat.reduceEqDiff,Nat.reduceMul,reduceIte,reduceCtorEq,qI,Nat.reduceLT,Nat.reduceBEq,up_s,Int.toNat_natCast,encT,encI,Int.natCast_zero,lm_normal,lm_exit,lm_ret,nl_s,nl_0, *]
    all_goals first
      | (have hlt:=of_decide_eq_true (by assumption:decide ((i:Int)<(l.length:Int))=true)
         have hil:i<l.length:=by omega
         first
         | omega
         | exact ⟨by omega,by omega⟩
         | (rw [wrap64 (by omega) (by omega)]; omega)
         | (refine Wk.of_eq ?_; rw [am6_f hil (of_decide_eq_true (by assumption))]; done)
         | exact ⟨by omega,am6_s hJ (by have:=of_decide_eq_false (by assumption:decide (l.getD i default≥n)=false); omega)⟩)
      | (have hlt:=of_decide_eq_false (by assumption:decide ((i:Int)<(l.length:Int))=false)
         obtain rfl:i=l.length:=by omega
         rw [am6_t hJ]; exact Wk.refl _)
      | trace_state
  all_goals first
    | omega
    | exact ⟨Nat.zero_le _,fun j hj=>absurd hj (Nat.not_lt_zero j)⟩
    | (simp -implicitDefEqProofs only [qA,ld_0,ld_pv,st_0,splice,doEqs,qU,List.reduceReplicate,Nat.reduceAdd,Nat.reduceSub,Nat.reduceLeDiff,Nat.reduceEqDiff,Nat.reduceMul,reduceIte,reduceCtorEq,qI,Nat.reduceLT,Nat.reduceBEq,qZ,nl_s,nl_0]; first | done | (simp; done))
    | trace_state

end Go.Sak
