/- Part S90 of the proofs about the program: K118, K119. Conditions: none. -/
import Derived.Test.YtccdhjhffebpoaaGreatS87
import Derived.Test.YtccdhjhffebpoaaGreatS41
import Derived.Test.YtccdhjhffebpoaaGreatS04
import Derived.Test.YtccdhjhffebpoaaGreatProg
import Derived.KernelRfl
import Derived.Test.YtccdhjhffebpoaaGreatS58
namespace Go.Sak
open Go Go.RowKit Go.Proofs
set_option linter.unusedVariables false
set_option linter.unusedSimpArgs false
set_option maxRecDepth 10000
set_option maxHeartbeats 8000000
theorem con52b {s:State} {id:Int} (h:s.threads.length≤100000000):Con Tryz.prog 52 [.agg (encZ s),.int .i64 id,.int .i64 2] (.bool (gIs s id),[],[]):=con52 h
theorem told_pc {t:Thread} {k r g pc:Int}:setPc (tTold (setPc t pc) k r g) pc=setPc (tTold t k r g) pc:=by
  unfold tTold; split <;> rfl
theorem tell_pc {u:State} {id k r g pc:Int} (hR:Rn u id) (h0:0≤pc) (h1:pc≤11):rTell (rAt u id pc) id k r g pc=rTell u id k r g pc:=by
  have hlo:=hR.lo
  have hhi:=hR.hi
  have hid:id.toNat<u.threads.length:=by omega
  have hm:me (rAt u id pc) id=setPc (me u id) pc:=me_put hlo hhi
  have hv:(setPc (me u id) pc).val=(me u id).val:=rfl
  unfold rTell fabTell
  rw [if_pos (hR.at h0 h1).is,if_pos hR.is,hm,hv]
  have hl:∀ x:Thread,∀ l:List Thread,id.toNat<l.length→(l.set id.toNat x).getD id.toNat default=x:=fun x l hl=>getD_set_same hl
  have e1:me (logged (put1 (rAt u id pc) id (tTold (setPc (me u id) pc) k r g)) ⟨id,k,(me u id).val,r,g⟩) id=tTold (setPc (me u id) pc) k r g:=by
    show ((u.threads.set id.toNat _).set id.toNat _).getD id.toNat default=_
    exact hl _ _ (by simp; omega)
  have e2:me (logged (put1 u id (tTold (me u id) k r g)) ⟨id,k,(me u id).val,r,g⟩) id=tTold (me u id) k r g:=hl _ _ hid
  show put1 _ id (setPc (me _ id) pc)=put1 _ id (setPc (me _ id) pc)
  rw [e1,e2,told_pc]
  simp only [put1,logged,rAt,set_set]
theorem rl_same {l:List Slot} {p:Int} (h:¬ (slotRelease l p).2=0):(slotRelease l p).1=l:=by
  unfold slotRelease at h ⊢
  split
  · rfl
  · rename_i h1
    rw [if_neg h1] at h
    split
    · rfl
    · rename_i h2; rw [if_neg h2] at h; exact absurd rfl h
def F94:AFn:=⟨17,(.seq (.reg [o1 1 (.box 33 0),o1 2 (.mv (ci 0))]) (.seq (.reg [o1 7 (.faddr 7 1),o1 8 (.ld 3 true 7),o1 9 (.faddr 10 1),o1 10 (.ld 1 false 9),o1 11 (.len 10),o1 12 (.call 193 [8,11]),o1 6 (.mv 12),o1 13 (.ext 6 0),o1 14 (.ext 6 1),o1 15 (.ext 6 2),o1 3 (.alloc 25 [(.int .i64 0),(.int .i64 0),(.int .i64 0)]),o2 (.st 3 3 13),o1 4 (.mv 14),o1 5 (.mv 15)]) (.seq (.reg [o1 16 (.mv 5),o1 2 (.mv 16)]) .ret))),[(2,none)]⟩
theorem x94:xf Tryz.prog 94=some F94:=by kernel_rfl
theorem con94  {s:State}:Con Tryz.prog 94 [.agg (encZ s)] ((.int .i64 ((wTake s.word s.slots.length).2.2)),[],[]):=by
  refine mcb_of_vc mix x94 (by simp [F94]) fun hw _=>?_
  simp only [wfs,AV.wf,inR_i64] at hw
  repeat' with_reducible first|refine gTn_of (fun h=>?_) (fun h=>?_)|refine gT_of (fun h=>?_) (fun h=>?_)|refine caseTn_of (fun h=>?_) (fun h=>?_)|refine caseT_of (fun h=>?_) (fun h=>?_)|refine fin_pure ?_ ?_ ?_ ?_|refine kv_ifn ?_ ?_|refine kv_if ?_ ?_|refine k_if ?_ ?_|refine P0 (con193) ?_ ?_ ?_|refine ACV.of (con193) ?_ ?_ ?_|refine ACK.of (con193) ?_ ?_|simp -implicitDefEqProofs only [F94,qA,doLd,doSt,splice,doEqs,qU,List.reduceReplicate,Nat.reduceAdd,Nat.reduceSub,Nat.reduceLeDiff,Nat.reduceEqDiff,Nat.reduceMul,reduceIte,reduceCtorEq,qZ,qC,encW,len_slv, *]
  all_goals first
    | (simp; done)
    | exact idxF_any
    | exact idxF_any.symm
    | grind [inR_i64,wrap64,maxLen_eq]

def F90:AFn:=⟨25,(.seq (.reg [o1 2 (.box 33 0),o1 4 (.alloc 33 [(.int .i64 0),(.int .i64 0),(.int .i64 0),(.int .i64 0),(.int .i64 0),(.int .i64 0),(.bool false),(.int .i64 0),(.int .i64 0),(.int .i64 0),.slnil,.slnil,.slnil,(.int .i64 0),.slnil,(.int .i64 0),.slnil,(.int .i64 0),.slnil,.slnil])]) (.seq (.seq (.reg [o1 5 (.faddr 12 2),o1 6 (.ld 1 false 5),o1 7 (.mv 1),o1 8 (.call 159 [6,7]),o1 9 (.bin .eql 8 (ci 0))]) (.cond 9 (.seq (.reg [o1 10 (.ld 20 true 2),o1 11 (.mv 1),o1 12 (.call 70 [10,11,(ci 2)]),o2 (.st 20 4 12)]) .ret) .skip)) (.seq (.seq (.reg [o1 13 (.faddr 18 2),o1 14 (.ld 1 false 13),o1 15 (.mv 1),o1 16 (.iaddr 11 14 15),o1 17 (.faddr 8 16),o1 18 (.ld 1 false 17)]) (.cond 18 (.seq (.reg [o1 19 (.ld 20 true 2),o1 20 (.mv 1),o1 21 (.call 160 [19,20,(ci 5),(ci 0),(ci 9)]),o2 (.st 20 4 21)]) .ret) .skip)) (.seq (.reg [o1 22 (.ld 20 true 2),o1 23 (.mv 1),o1 24 (.call 161 [22,23]),o2 (.st 20 4 24)]) .ret)))),[(4,some (20,true))]⟩
theorem x90:xf Tryz.prog 90=some F90:=by kernel_rfl
theorem con90 {s:State} {id:Int} (hT:s.threads.length≤100000000) (h7:s.log.length≤100000000) (h0:0≤id) (hlt:id<s.threads.length) (ht:0≤(me s id).tries∧(me s id).tries≤1099511627776):Con Tryz.prog 90 [.agg (encZ s),.int .i64 id] (.agg (encZ (gFirst s id)),[],[]):=by
  refine mcb_of_vc mix x90 (by simp [F90]) fun hw _=>?_
  clear hw
  repeat' with_reducible first|refine gTn_of (fun h=>?_) (fun h=>?_)|refine gT_of (fun h=>?_) (fun h=>?_)|refine caseTn_of (fun h=>?_) (fun h=>?_)|refine caseT_of (fun h=>?_) (fun h=>?_)|refine FN ?_ ?_ ?_ ?_ rfl ?_|refine kv_ifn ?_ ?_|refine kv_if ?_ ?_|refine k_if ?_ ?_|refine IA ?_ ?_ ?_|refine L1 ?_ ?_|refine L2 ?_ ?_|refine L3 ?_ ?_ ?_ ?_|refine L4 ?_ ?_|refine L5 ?_ ?_ ?_ ?_ ?_|refine L6 ?_ ?_ ?_ ?_ ?_|refine ia_of (d:=default) ?_ ?_|refine ap_of (rw_slv _ _ _) (by simp -implicitDefEqProofs only [m_get,Nat.reduceEqDiff,reduceIte,if_true,if_false]; first|done|exact rfl) ?_ ?_ ?_ ?_|refine ap_of (rw_slm _ _ _ _ _ _ (by simp -implicitDefEqProofs only [m_get,Nat.reduceEqDiff,reduceIte,if_true,if_false]; first|done|exact rfl) ?_) (by simp -implicitDefEqProofs only [m_get,Nat.reduceEqDiff,reduceIte,if_true,if_false]; first|done|exact rfl) ?_ ?_ ?_ ?_|refine AC.p0 (con76s ?_ ?_ ?_) ?_ (by simp -implicitDefEqProofs only [qU,pure_encZ]; done) ?_ ?_|refine AC.p0 (con176s ?_ ?_) ?_ (by simp -implicitDefEqProofs only [qU,pure_encZ]; done) ?_ ?_|refine AC.p0 (con78s ?_) ?_ (by simp -implicitDefEqProofs only [qU,pure_encZ]; done) ?_ ?_|refine AC.p0 (con70 ?_ ?_ ?_) ?_ (by simp -implicitDefEqProofs only [qU,pure_encZ]; done) ?_ ?_|refine AC.p0 (con162 ?_ ?_ ?_) ?_ (by simp -implicitDefEqProofs only [qU,pure_encZ]; done) ?_ ?_|refine AC.p0 (con161 ?_ ?_ ?_ ?_) ?_ (by simp -implicitDefEqProofs only [qU,pure_encZ]; done) ?_ ?_|refine AC.p0 (con160 ?_ ?_ ?_ ?_) ?_ (by simp -implicitDefEqProofs only [qU,pure_encZ]; done) ?_ ?_|refine AC.p0 (con174s ?_) ?_ (by simp -implicitDefEqProofs only [qU,pure_encZ]; done) ?_ ?_|refine P0 (con159) ?_ ?_ ?_|refine ACV.of (con159) ?_ ?_ ?_|refine ACK.of (con159) ?_ ?_|simp -implicitDefEqProofs only [F90,qA,ld_0,ld_pv,st_0,doEqs,qU,List.reduceReplicate,Nat.reduceAdd,Nat.reduceSub,Nat.reduceLeDiff,Nat.reduceEqDiff,Nat.reduceMul,reduceIte,reduceCtorEq,qI,Nat.reduceLT,Nat.reduceBEq,up_s,Int.toNat_natCast,encT,qZ,splice_c,sp_word,sp_slots,sp_sends,sp_recvs,sp_full,sp_empty,sp_allZ,sp_allW,sp_allV,qC,encW,encV,Int.natCast_zero, *]
  all_goals first
    | omega
    | exact Wk.refl _
    | (simp only [pures,AV.pure,pure_encZ,pure_encC7,Bool.and_true]; done)
    | exact ⟨h0,hlt⟩
    | exact h0
    | exact hlt
    | exact hT
    | exact h7
    | (rw [tell_len]; first | exact hT | exact hlt)
    | (simp only [withWord,withSlots,withSends,withRecvs,withFull,withEmpty,put1,List.length_set]; first | exact hT | exact h7 | exact hlt | omega)
    | exact ht
    | (simp only [decide_eq_true_eq,decide_eq_false_iff_not,cond_true,cond_false] at *
       refine Wk.of_eq ?_
       clear hT h7 h0 hlt
       simp only [me] at *
       simp only [gFirst,rEnds,me, *,reduceIte,if_true,if_false,Bool.false_eq_true,not_true_eq_false,not_false_eq_true,and_true,true_and,and_false,false_and,Int.reduceEq]
       done)
    | trace_state

def F91:AFn:=⟨48,(.seq (.reg [o1 2 (.box 33 0),o1 4 (.alloc 33 [(.int .i64 0),(.int .i64 0),(.int .i64 0),(.int .i64 0),(.int .i64 0),(.int .i64 0),(.bool false),(.int .i64 0),(.int .i64 0),(.int .i64 0),.slnil,.slnil,.slnil,(.int .i64 0),.slnil,(.int .i64 0),.slnil,(.int .i64 0),.slnil,.slnil])]) (.seq (.reg [o1 7 (.ld 20 true 2),o1 8 (.call 94 [7]),o1 5 (.mv 8)]) (.seq (.seq (.reg [o1 9 (.mv 5),o1 10 (.bin .eql 9 (ci 1))]) (.cond 10 (.seq (.reg [o1 11 (.ld 20 true 2),o1 12 (.mv 1),o1 13 (.call 70 [11,12,(ci 3)]),o2 (.st 20 4 13)]) .ret) .skip)) (.seq (.seq (.reg [o1 14 (.mv 5),o1 15 (.bin .neq 14 (ci 4))]) (.cond 15 (.seq (.reg [o1 16 (.ld 20 true 2),o1 17 (.mv 1),o1 18 (.mv 5),o1 19 (.call 160 [16,17,18,(ci 0),(ci 9)]),o2 (.st 20 4 19)]) .ret) .skip)) (.seq (.reg [o1 20 (.faddr 18 2),o1 21 (.ld 1 false 20),o1 22 (.mv 1),o1 23 (.iaddr 11 21 22),o1 24 (.ld 11 true 23),o1 6 (.alloc 48 [(.int .i64 0),(.int .i64 0),(.int .i64 0),(.int .i64 0),(.int .i64 0),(.int .i64 0),(.int .i64 0),(.int .i64 0),(.bool false),(.int .i64 0),(.int .i64 0)]),o2 (.st 11 6 24)]) (.seq (.seq (.reg [o1 25 (.faddr 1 6),o1 26 (.ld 1 false 25),o1 27 (.bin .eql 26 (ci 5))]) (.cond 27 (.seq (.reg [o1 28 (.ld 20 true 2),o1 29 (.mv 1),o1 30 (.call 160 [28,29,(ci 4),(ci 0),(ci 9)]),o2 (.st 20 4 30)]) .ret) .skip)) (.seq (.seq (.reg [o1 31 (.faddr 8 6),o1 32 (.ld 1 false 31)]) (.cond 32 (.seq (.reg [o1 33 (.ld 20 true 2),o1 34 (.mv 1),o1 35 (.call 160 [33,34,(ci 5),(ci 0),(ci 9)]),o2 (.st 20 4 35)]) .ret) .skip)) (.seq (.seq (.reg [o1 36 (.faddr 0 2),o1 37 (.ld 7 true 36),o1 38 (.faddr 7 6),o1 39 (.ld 1 false 38),o1 40 (.call 192 [37,39]),o1 41 (.bin .eql 40 (ci 2))]) (.cond 41 (.seq (.reg [o1 42 (.ld 20 true 2),o1 43 (.mv 1),o1 44 (.call 70 [42,43,(ci 5)]),o2 (.st 20 4 44)]) .ret) .skip)) (.seq (.reg [o1 45 (.ld 20 true 2),o1 46 (.mv 1),o1 47 (.call 161 [45,46]),o2 (.st 20 4 47)]) .ret))))))))),[(4,some (20,true))]⟩
theorem x91:xf Tryz.prog 91=some F91:=by kernel_rfl
theorem con91 {s:State} {id:Int} (hT:s.threads.length≤100000000) (h7:s.log.length≤100000000) (h0:0≤id) (hlt:id<s.threads.length) (ht:0≤(me s id).tries∧(me s id).tries≤1099511627776):Con Tryz.prog 91 [.agg (encZ s),.int .i64 id] (.agg (encZ (gLook s id)),[],[]):=by
  refine mcb_of_vc mix x91 (by simp [F91]) fun hw _=>?_
  clear hw
  repeat' with_reducible first|refine gTn_of (fun h=>?_) (fun h=>?_)|refine gT_of (fun h=>?_) (fun h=>?_)|refine caseTn_of (fun h=>?_) (fun h=>?_)|refine caseT_of (fun h=>?_) (fun h=>?_)|refine FN ?_ ?_ ?_ ?_ rfl ?_|refine kv_ifn ?_ ?_|refine kv_if ?_ ?_|refine k_if ?_ ?_|refine IA ?_ ?_ ?_|refine L1 ?_ ?_|refine L2 ?_ ?_|refine L3 ?_ ?_ ?_ ?_|refine L4 ?_ ?_|refine L5 ?_ ?_ ?_ ?_ ?_|refine L6 ?_ ?_ ?_ ?_ ?_|refine ia_of (d:=default) ?_ ?_|refine ap_of (rw_slv _ _ _) (by simp -implicitDefEqProofs only [m_get,Nat.reduceEqDiff,reduceIte,if_true,if_false]; first|done|exact rfl) ?_ ?_ ?_ ?_|refine ap_of (rw_slm _ _ _ _ _ _ (by simp -implicitDefEqProofs only [m_get,Nat.reduceEqDiff,reduceIte,if_true,if_false]; first|done|exact rfl) ?_) (by simp -implicitDefEqProofs only [m_get,Nat.reduceEqDiff,reduceIte,if_true,if_false]; first|done|exact rfl) ?_ ?_ ?_ ?_|refine AC.p0 (con76s ?_ ?_ ?_) ?_ (by simp -implicitDefEqProofs only [qU,pure_encZ]; done) ?_ ?_|refine AC.p0 (con176s ?_ ?_) ?_ (by simp -implicitDefEqProofs only [qU,pure_encZ]; done) ?_ ?_|refine AC.p0 (con78s ?_) ?_ (by simp -implicitDefEqProofs only [qU,pure_encZ]; done) ?_ ?_|refine AC.p0 (con70 ?_ ?_ ?_) ?_ (by simp -implicitDefEqProofs only [qU,pure_encZ]; done) ?_ ?_|refine AC.p0 (con162 ?_ ?_ ?_) ?_ (by simp -implicitDefEqProofs only [qU,pure_encZ]; done) ?_ ?_|refine AC.p0 (con161 ?_ ?_ ?_ ?_) ?_ (by simp -implicitDefEqProofs only [qU,pure_encZ]; done) ?_ ?_|refine AC.p0 (con160 ?_ ?_ ?_ ?_) ?_ (by simp -implicitDefEqProofs only [qU,pure_encZ]; done) ?_ ?_|refine AC.p0 (con174s ?_) ?_ (by simp -implicitDefEqProofs only [qU,pure_encZ]; done) ?_ ?_|refine AC.p0 (con94 ) ?_ (by simp -implicitDefEqProofs only [qU,pure_encZ]; done) ?_ ?_|refine AC.p0 (con192s ?_) ?_ ?_ ?_ ?_|simp -implicitDefEqProofs only [F91,qA,ld_0,ld_pv,st_0,doEqs,qU,List.reduceReplicate,Nat.reduceAdd,Nat.reduceSub,Nat.reduceLeDiff,Nat.reduceEqDiff,Nat.reduceMul,reduceIte,reduceCtorEq,qI,Nat.reduceLT,Nat.reduceBEq,up_s,Int.toNat_natCast,encT,qZ,splice_c,sp_word,sp_slots,sp_sends,sp_recvs,sp_full,sp_empty,sp_allZ,sp_allW,sp_allV,qC,encW,encV,Int.natCast_zero,cfg_t,pure_encC7, *]
  all_goals first
    | omega
    | exact Wk.refl _
    | (simp only [pures,AV.pure,pure_encZ,pure_encC7,Bool.and_true]; done)
    | exact ⟨h0,hlt⟩
    | exact h0
    | exact hlt
    | exact hT
    | exact h7
    | (rw [tell_len]; first | exact hT | exact hlt)
    | (simp only [withWord,withSlots,withSends,withRecvs,withFull,withEmpty,put1,List.length_set]; first | exact hT | exact h7 | exact hlt | omega)
    | exact ht
    | exact ht.1
    | exact pure_encC7 _
    | (simp only [decide_eq_true_eq,decide_eq_false_iff_not,cond_true,cond_false] at *
       refine Wk.of_eq ?_
       clear hT h7 h0 hlt
       simp only [me] at *
       simp only [gLook,gVain,wSees,rEnds,me, *,reduceIte,if_true,if_false,Bool.false_eq_true,not_true_eq_false,not_false_eq_true,and_true,true_and,and_false,false_and,Int.reduceEq]
       done)
    | trace_state

def F92:AFn:=⟨43,(.seq (.reg [o1 2 (.box 33 0),o1 4 (.alloc 33 [(.int .i64 0),(.int .i64 0),(.int .i64 0),(.int .i64 0),(.int .i64 0),(.int .i64 0),(.bool false),(.int .i64 0),(.int .i64 0),(.int .i64 0),.slnil,.slnil,.slnil,(.int .i64 0),.slnil,(.int .i64 0),.slnil,(.int .i64 0),.slnil,.slnil])]) (.seq (.reg [o1 10 (.faddr 7 2),o1 11 (.ld 3 true 10),o1 12 (.faddr 10 2),o1 13 (.ld 1 false 12),o1 14 (.len 13),o1 15 (.call 193 [11,14]),o1 9 (.mv 15),o1 16 (.ext 9 0),o1 17 (.ext 9 1),o1 18 (.ext 9 2),o1 5 (.alloc 25 [(.int .i64 0),(.int .i64 0),(.int .i64 0)]),o2 (.st 3 5 16),o1 6 (.mv 17),o1 7 (.mv 18)]) (.seq (.seq (.reg [o1 19 (.mv 7),o1 20 (.bin .eql 19 (ci 4))]) (.cond 20 (.seq (.reg [o1 21 (.ld 20 true 2),o1 22 (.mv 1),o1 23 (.call 70 [21,22,(ci 2)]),o2 (.st 20 4 23)]) .ret) .skip)) (.seq (.seq (.reg [o1 24 (.mv 7),o1 25 (.bin .neq 24 (ci 1))]) (.cond 25 (.seq (.reg [o1 26 (.ld 20 true 2),o1 27 (.mv 1),o1 28 (.mv 7),o1 29 (.call 160 [26,27,28,(ci 0),(ci 9)]),o2 (.st 20 4 29)]) .ret) .skip)) (.seq (.reg [o1 30 (.ld 20 true 2),o1 31 (.mv 6),o1 32 (.call 174 [30,31]),o1 8 (.mv 32)]) (.seq (.reg [o1 33 (.ld 3 true 5),o1 34 (.faddr 7 2),o2 (.st 3 34 33)]) (.seq (.reg [o1 35 (.ld 20 true 2),o1 36 (.mv 1),o1 37 (.mv 6),o1 38 (.call 162 [35,36,37,(ci 4)]),o2 (.st 20 2 38)]) (.seq (.reg [o1 39 (.ld 20 true 2),o1 40 (.mv 1),o1 41 (.mv 8),o1 42 (.call 160 [39,40,(ci 1),41,(ci 4)]),o2 (.st 20 4 42)]) .ret)))))))),[(4,some (20,true))]⟩
theorem x92:xf Tryz.prog 92=some F92:=by kernel_rfl
theorem con92 {s:State} {id:Int} (hT:s.threads.length≤100000000) (h7:s.log.length≤100000000) (h0:0≤id) (hlt:id<s.threads.length) (hI:gIs s id=true):Con Tryz.prog 92 [.agg (encZ s),.int .i64 id] (.agg (encZ (gTake s id)),[],[]):=by
  have hRw:(wTake s.word s.slots.length).2.2=1→Rn (put1 (withWord s (wTake s.word s.slots.length).1) id (setReg (me s id) (wTake s.word s.slots.length).2.1)) id:=fun _=>by
    have hI2:=hI
    simp only [gIs,Bool.and_eq_true,decide_eq_true_eq] at hI2
    have hR:Rn s id:=rn_of hI2.1.1 hI2.1.2
    have hl:=hR.fab.len
    have ha:=take_at (w:=s.word) (room:=s.slots.length) (by rw [hl]; exact hR.fab.word)
    exact (show Rn (withWord s (wTake s.word s.slots.length).1) id from hR.wd (by rw [hl]; exact wp_take hR.fab.word)).reg ha.1 ha.2
  refine mcb_of_vc mix x92 (by simp [F92]) fun hw _=>?_
  clear hw
  repeat' with_reducible first|refine gTn_of (fun h=>?_) (fun h=>?_)|refine gT_of (fun h=>?_) (fun h=>?_)|refine caseTn_of (fun h=>?_) (fun h=>?_)|refine caseT_of (fun h=>?_) (fun h=>?_)|refine FN ?_ ?_ ?_ ?_ rfl ?_|refine kv_ifn ?_ ?_|refine kv_if ?_ ?_|refine k_if ?_ ?_|refine IA ?_ ?_ ?_|refine L1 ?_ ?_|refine L2 ?_ ?_|refine L3 ?_ ?_ ?_ ?_|refine L4 ?_ ?_|refine L5 ?_ ?_ ?_ ?_ ?_|refine L6 ?_ ?_ ?_ ?_ ?_|refine ia_of (d:=default) ?_ ?_|refine ap_of (rw_slv _ _ _) (by simp -implicitDefEqProofs only [m_get,Nat.reduceEqDiff,reduceIte,if_true,if_false]; first|done|exact rfl) ?_ ?_ ?_ ?_|refine ap_of (rw_slm _ _ _ _ _ _ (by simp -implicitDefEqProofs only [m_get,Nat.reduceEqDiff,reduceIte,if_true,if_false]; first|done|exact rfl) ?_) (by simp -implicitDefEqProofs only [m_get,Nat.reduceEqDiff,reduceIte,if_true,if_false]; first|done|exact rfl) ?_ ?_ ?_ ?_|refine AC.p0 (con76s ?_ ?_ ?_) ?_ (by simp -implicitDefEqProofs only [qU,pure_encZ]; done) ?_ ?_|refine AC.p0 (con176s ?_ ?_) ?_ (by simp -implicitDefEqProofs only [qU,pure_encZ]; done) ?_ ?_|refine AC.p0 (con78s ?_) ?_ (by simp -implicitDefEqProofs only [qU,pure_encZ]; done) ?_ ?_|refine AC.p0 (con70 ?_ ?_ ?_) ?_ (by simp -implicitDefEqProofs only [qU,pure_encZ]; done) ?_ ?_|refine AC.p0 (con162 ?_ ?_ ?_) ?_ (by simp -implicitDefEqProofs only [qU,pure_encZ]; done) ?_ ?_|refine AC.p0 (con161 ?_ ?_ ?_ ?_) ?_ (by simp -implicitDefEqProofs only [qU,pure_encZ]; done) ?_ ?_|refine AC.p0 (con160 ?_ ?_ ?_ ?_) ?_ (by simp -implicitDefEqProofs only [qU,pure_encZ]; done) ?_ ?_|refine AC.p0 (con174s ?_) ?_ (by simp -implicitDefEqProofs only [qU,pure_encZ]; done) ?_ ?_|refine P0 (con193) ?_ ?_ ?_|refine ACV.of (con193) ?_ ?_ ?_|refine ACK.of (con193) ?_ ?_|simp -implicitDefEqProofs only [F92,qA,ld_0,ld_pv,st_0,doEqs,qU,List.reduceReplicate,Nat.reduceAdd,Nat.reduceSub,Nat.reduceLeDiff,Nat.reduceEqDiff,Nat.reduceMul,reduceIte,reduceCtorEq,qI,Nat.reduceLT,Nat.reduceBEq,up_s,Int.toNat_natCast,encT,qZ,splice_c,sp_word,sp_slots,sp_sends,sp_recvs,sp_full,sp_empty,sp_allZ,sp_allW,sp_allV,qC,encW,encV,Int.natCast_zero, *]
  all_goals first
    | omega
    | exact Wk.refl _
    | (simp only [pures,AV.pure,pure_encZ,pure_encC7,Bool.and_true]; done)
    | exact ⟨h0,hlt⟩
    | exact h0
    | exact hlt
    | exact hT
    | exact h7
    | (rw [tell_len]; first | exact hT | exact hlt)
    | (simp only [withWord,withSlots,withSends,withRecvs,withFull,withEmpty,put1,List.length_set]; first | exact hT | exact h7 | exact hlt | omega)
    | (have h1:(wTake s.word s.slots.length).2.2=1:=of_decide_eq_true (by assumption:decide ((wTake s.word s.slots.length).2.2=1)=true)
       have hk:(me (rAt (put1 (withWord s (wTake s.word s.slots.length).1) id (setReg (me s id) (wTake s.word s.slots.length).2.1)) id 4) id).kind=(me s id).kind:=by
         unfold rAt
         rw [me_put (hRw h1).lo (hRw h1).hi]
         show (me (put1 (withWord s (wTake s.word s.slots.length).1) id (setReg (me s id) (wTake s.word s.slots.length).2.1)) id).kind=_
         rw [me_put (s:=withWord s (wTake s.word s.slots.length).1) h0 hlt]; rfl
       refine Wk.of_eq ?_; unfold gTake; simp only []; rw [if_pos h1,← tell_pc (hRw h1) (by decide) (by decide)]
       exact congrArg (fun k=>AV.agg (encZ (rTell (rAt (put1 (withWord s (wTake s.word s.slots.length).1) id (setReg (me s id) (wTake s.word s.slots.length).2.1)) id 4) id k 1 (fabValue s (wTake s.word s.slots.length).2.1) 4))) hk)
    | (have h4:(wTake s.word s.slots.length).2.2=4:=of_decide_eq_true (by assumption:decide ((wTake s.word s.slots.length).2.2=4)=true)
       refine Wk.of_eq ?_; unfold gTake; simp only []; rw [if_neg (by rw [h4]; decide),if_pos h4]; first | done | rfl)
    | (refine Wk.of_eq ?_; unfold gTake; simp only []; rw [if_neg (of_decide_eq_false (by assumption:decide ((wTake s.word s.slots.length).2.2=1)=false)),if_neg (of_decide_eq_false (by assumption:decide ((wTake s.word s.slots.length).2.2=4)=false))]; first | done | rfl)
    | (unfold rAt put1 withWord; simp only [List.length_set]; first | exact hT | exact h7 | exact hlt)
    | trace_state

def F95:AFn:=⟨53,(.seq (.reg [o1 2 (.box 33 0),o1 4 (.alloc 33 [(.int .i64 0),(.int .i64 0),(.int .i64 0),(.int .i64 0),(.int .i64 0),(.int .i64 0),(.bool false),(.int .i64 0),(.int .i64 0),(.int .i64 0),.slnil,.slnil,.slnil,(.int .i64 0),.slnil,(.int .i64 0),.slnil,(.int .i64 0),.slnil,.slnil])]) (.seq (.seq (.reg [o1 10 (.faddr 18 2),o1 11 (.ld 1 false 10),o1 12 (.mv 1),o1 13 (.iaddr 11 11 12),o1 14 (.faddr 8 13),o1 15 (.ld 1 false 14)]) (.cond 15 (.seq (.reg [o1 16 (.ld 20 true 2),o1 17 (.mv 1),o1 18 (.call 70 [16,17,(ci 2)]),o2 (.st 20 4 18)]) .ret) .skip)) (.seq (.regT [o1 20 (.faddr 15 2),o1 21 (.ld 2 true 20),o1 22 (.faddr 18 2),o1 23 (.ld 1 false 22),o1 24 (.mv 1),o1 25 (.iaddr 11 23 24),o1 26 (.faddr 6 25),o1 27 (.ld 1 false 26),o1 28 (.mv 1),o1 29 (.call 171 [21,27,28]),o1 19 (.mv 29),o1 30 (.ext 19 0),o1 31 (.ext 19 1),o1 32 (.ext 19 2),o1 5 (.alloc 29 [(.int .i64 0),.slnil]),o2 (.st 2 5 30),o1 6 (.mv 31),o1 7 (.mv 32)] [(0,2),(1,2),(0,3),(1,3),(0,5),(1,5),(0,6),(1,6),(0,7),(1,7),(0,14),(1,14),(2,14),(3,14),(5,14),(6,14),(7,14),(9,14)]) (.seq (.reg [o1 33 (.ld 2 true 5),o1 34 (.faddr 15 2),o2 (.st 2 34 33)]) (.seq (.seq (.reg [o1 35 (.mv 6),o1 36 (.not 35)]) (.cond 36 (.seq (.reg [o1 37 (.ld 20 true 2),o1 38 (.mv 1),o1 39 (.call 70 [37,38,(ci 2)]),o2 (.st 20 4 39)]) .ret) .skip)) (.seq (.reg [o1 41 (.faddr 18 2),o1 42 (.ld 1 false 41),o1 43 (.mv 1),o1 44 (.iaddr 11 42 43),o1 45 (.ld 11 true 44),o1 46 (.call 172 [45,(ci 2)]),o1 40 (.mv 46),o1 47 (.ext 40 0),o1 48 (.ext 40 1),o1 8 (.alloc 48 [(.int .i64 0),(.int .i64 0),(.int .i64 0),(.int .i64 0),(.int .i64 0),(.int .i64 0),(.int .i64 0),(.int .i64 0),(.bool false),(.int .i64 0),(.int .i64 0)]),o2 (.st 11 8 47),o1 9 (.mv 48)]) (.seq (.reg [o1 49 (.ld 20 true 2),o1 50 (.mv 1),o1 51 (.ld 11 true 8),o1 52 (.call 76 [49,50,51]),o2 (.st 20 4 52)]) .ret))))))),[(4,some (20,true))]⟩
theorem x95:xf Tryz.prog 95=some F95:=by kernel_rfl
theorem con95 {s:State} {id:Int} (hT:s.threads.length≤100000000) (h7:s.log.length≤100000000) (h0:0≤id) (hlt:id<s.threads.length) (hf:s.empty.ln.length≤1000000) (hr:tRuns (me s id)=0):Con Tryz.prog 95 [.agg (encZ s),.int .i64 id] (.agg (encZ (gCommit s id)),[],[]):=by
  refine mcb_of_vc mix x95 (by simp [F95]) fun hw _=>?_
  clear hw
  repeat' with_reducible first|refine gTn_of (fun h=>?_) (fun h=>?_)|refine gT_of (fun h=>?_) (fun h=>?_)|refine caseTn_of (fun h=>?_) (fun h=>?_)|refine caseT_of (fun h=>?_) (fun h=>?_)|refine FN ?_ ?_ ?_ ?_ rfl ?_|refine kv_ifn ?_ ?_|refine kv_if ?_ ?_|refine k_if ?_ ?_|refine IA ?_ ?_ ?_|refine L1 ?_ ?_|refine L2 ?_ ?_|refine L3 ?_ ?_ ?_ ?_|refine L4 ?_ ?_|refine L5 ?_ ?_ ?_ ?_ ?_|refine L6 ?_ ?_ ?_ ?_ ?_|refine ia_of (d:=default) ?_ ?_|refine ap_of (rw_slv _ _ _) (by simp -implicitDefEqProofs only [m_get,Nat.reduceEqDiff,reduceIte,if_true,if_false]; first|done|exact rfl) ?_ ?_ ?_ ?_|refine ap_of (rw_slm _ _ _ _ _ _ (by simp -implicitDefEqProofs only [m_get,Nat.reduceEqDiff,reduceIte,if_true,if_false]; first|done|exact rfl) ?_) (by simp -implicitDefEqProofs only [m_get,Nat.reduceEqDiff,reduceIte,if_true,if_false]; first|done|exact rfl) ?_ ?_ ?_ ?_|refine AC.p0 (con76s ?_ ?_ ?_) ?_ (by simp -implicitDefEqProofs only [qU,pure_encZ]; done) ?_ ?_|refine AC.p0 (con176s ?_ ?_) ?_ (by simp -implicitDefEqProofs only [qU,pure_encZ]; done) ?_ ?_|refine AC.p0 (con78s ?_) ?_ (by simp -implicitDefEqProofs only [qU,pure_encZ]; done) ?_ ?_|refine AC.p0 (con70 ?_ ?_ ?_) ?_ (by simp -implicitDefEqProofs only [qU,pure_encZ]; done) ?_ ?_|refine AC.p0 (con162 ?_ ?_ ?_) ?_ (by simp -implicitDefEqProofs only [qU,pure_encZ]; done) ?_ ?_|refine AC.p0 (con161 ?_ ?_ ?_ ?_) ?_ (by simp -implicitDefEqProofs only [qU,pure_encZ]; done) ?_ ?_|refine AC.p0 (con160 ?_ ?_ ?_ ?_) ?_ (by simp -implicitDefEqProofs only [qU,pure_encZ]; done) ?_ ?_|refine AC.p0 (con174s ?_) ?_ (by simp -implicitDefEqProofs only [qU,pure_encZ]; done) ?_ ?_|refine P0 (con171 ?_) ?_ ?_ ?_|refine ACV.of (con171 ?_) ?_ ?_ ?_|refine ACK.of (con171 ?_) ?_ ?_|refine P0 (con172) ?_ ?_ ?_|refine ACV.of (con172) ?_ ?_ ?_|refine ACK.of (con172) ?_ ?_|simp -implicitDefEqProofs only [F95,qA,ld_0,ld_pv,st_0,doEqs,qU,List.reduceReplicate,Nat.reduceAdd,Nat.reduceSub,Nat.reduceLeDiff,Nat.reduceEqDiff,Nat.reduceMul,reduceIte,reduceCtorEq,qI,Nat.reduceLT,Nat.reduceBEq,up_s,Int.toNat_natCast,encT,qZ,splice_c,sp_word,sp_slots,sp_sends,sp_recvs,sp_full,sp_empty,sp_allZ,sp_allW,sp_allV,qC,encW,encV,Int.natCast_zero,ev_e, *]
  all_goals first
    | omega
    | exact Wk.refl _
    | (simp only [pures,AV.pure,pure_encZ,pure_encC7,Bool.and_true]; done)
    | exact ⟨h0,hlt⟩
    | exact h0
    | exact hlt
    | exact hT
    | exact h7
    | (rw [tell_len]; first | exact hT | exact hlt)
    | (simp only [withWord,withSlots,withSends,withRecvs,withFull,withEmpty,put1,List.length_set]; first | exact hT | exact h7 | exact hlt | omega)
    | (refine Wk.of_eq ?_; unfold gCommit; rw [if_pos (show (me s id).late=true from (by assumption:(s.threads.getD id.toNat default).late=true))]; first | done | rfl)
    | (have h9:(me s id).late=false:=(by assumption:(s.threads.getD id.toNat default).late=false)
       have h8:(vCommit s.empty (me s id).seen id).2.1=true:=(by assumption:(vCommit s.empty (s.threads.getD id.toNat default).seen id).2.1=true)
       refine Wk.of_eq ?_; unfold gCommit; rw [if_neg (by simp [h9])]; simp only []; rw [if_pos h8,park_eq hr]; first | done | rfl)
    | (have h9:(me s id).late=false:=(by assumption:(s.threads.getD id.toNat default).late=false)
       have h8:(vCommit s.empty (me s id).seen id).2.1=false:=(by assumption:(vCommit s.empty (s.threads.getD id.toNat default).seen id).2.1=false)
       refine Wk.of_eq ?_; unfold gCommit; rw [if_neg (by simp [h9])]; simp only []; rw [if_neg (by simp [h8])]; first | done | rfl)
    | exact hf
    | trace_state

def F28:AFn:=⟨151,(.seq (.reg [o1 2 (.box 33 0),o1 4 (.alloc 33 [(.int .i64 0),(.int .i64 0),(.int .i64 0),(.int .i64 0),(.int .i64 0),(.int .i64 0),(.bool false),(.int .i64 0),(.int .i64 0),(.int .i64 0),.slnil,.slnil,.slnil,(.int .i64 0),.slnil,(.int .i64 0),.slnil,(.int .i64 0),.slnil,.slnil])]) (.seq (.reg [o1 14 (.ld 20 true 2),o1 15 (.mv 1),o1 16 (.call 52 [14,15,(ci 2)]),o1 5 (.mv 16)]) (.seq (.seq (.reg [o1 17 (.mv 5),o1 18 (.not 17)]) (.cond 18 (.seq (.reg [o1 19 (.ld 20 true 2),o2 (.st 20 4 19)]) .ret) .skip)) (.seq (.reg [o1 20 (.faddr 18 2),o1 21 (.ld 1 false 20),o1 22 (.mv 1),o1 23 (.iaddr 11 21 22),o1 24 (.ld 11 true 23),o1 6 (.alloc 48 [(.int .i64 0),(.int .i64 0),(.int .i64 0),(.int .i64 0),(.int .i64 0),(.int .i64 0),(.int .i64 0),(.int .i64 0),(.bool false),(.int .i64 0),(.int .i64 0)]),o2 (.st 11 6 24)]) (.seq (.seq (.reg [o1 25 (.faddr 4 6),o1 26 (.ld 1 false 25)]) (.block 0 (.seq (.reg [o1 28 (.bin .eql 26 (ci 0)),o1 27 (.mv 28)]) (.cond 27 (.seq (.reg [o1 30 (.faddr 12 2),o1 31 (.ld 1 false 30),o1 32 (.mv 1),o1 33 (.call 69 [31,32]),o1 29 (.mv 33),o1 34 (.ext 29 0),o1 35 (.ext 29 1),o1 36 (.faddr 12 2),o2 (.st 1 36 34)]) (.seq (.reg [o1 37 (.ld 20 true 2),o1 38 (.mv 1),o1 39 (.call 70 [37,38,(ci 1)]),o2 (.st 20 4 39)]) .ret)) (.seq (.reg [o1 41 (.bin .eql 26 (ci 1)),o1 40 (.mv 41)]) (.cond 40 (.seq (.reg [o1 42 (.ld 20 true 2),o1 43 (.mv 1),o1 44 (.call 90 [42,43]),o2 (.st 20 4 44)]) .ret) (.seq (.reg [o1 46 (.bin .eql 26 (ci 2)),o1 45 (.mv 46)]) (.cond 45 (.seq (.reg [o1 47 (.ld 20 true 2),o1 48 (.mv 1),o1 49 (.call 91 [47,48]),o2 (.st 20 4 49)]) .ret) (.seq (.reg [o1 51 (.bin .eql 26 (ci 3)),o1 50 (.mv 51)]) (.cond 50 (.seq (.reg [o1 52 (.ld 20 true 2),o1 53 (.mv 1),o1 54 (.call 92 [52,53]),o2 (.st 20 4 54)]) .ret) (.seq (.reg [o1 56 (.bin .eql 26 (ci 4)),o1 55 (.mv 56)]) (.cond 55 (.seq (.reg [o1 58 (.faddr 10 2),o1 59 (.ld 1 false 58),o1 60 (.faddr 5 6),o1 61 (.ld 1 false 60),o1 62 (.call 93 [59,61]),o1 57 (.mv 62),o1 63 (.ext 57 0),o1 64 (.ext 57 1),o1 65 (.faddr 10 6),o2 (.st 1 65 63)]) (.seq (.reg [o1 66 (.faddr 4 6),o2 (.st 1 66 (ci 6))]) (.seq (.reg [o1 68 (.faddr 10 2),o1 69 (.ld 1 false 68),o1 70 (.faddr 5 6),o1 71 (.ld 1 false 70),o1 72 (.call 84 [69,71]),o1 67 (.mv 72),o1 73 (.ext 67 0),o1 74 (.ext 67 1),o1 7 (.mv 73),o1 8 (.mv 74)]) (.seq (.seq (.reg [o1 75 (.mv 8),o1 76 (.bin .eql 75 (ci 0))]) (.cond 76 (.reg [o1 77 (.mv 7),o1 78 (.faddr 10 2),o2 (.st 1 78 77)]) .skip)) (.seq (.reg [o1 79 (.ld 20 true 2),o1 80 (.mv 1),o1 81 (.ld 11 true 6),o1 82 (.call 76 [79,80,81]),o2 (.st 20 4 82)]) .ret))))) (.seq (.reg [o1 84 (.bin .eql 26 (ci 5)),o1 83 (.mv 84)]) (.cond 83 (.seq (.reg [o1 85 (.faddr 15 2),o1 86 (.ld 2 true 85),o1 87 (.call 75 [86]),o1 88 (.faddr 6 6),o2 (.st 1 88 87)]) (.seq (.reg [o1 89 (.faddr 4 6),o2 (.st 1 89 (ci 7))]) (.seq (.reg [o1 90 (.ld 20 true 2),o1 91 (.mv 1),o1 92 (.ld 11 true 6),o1 93 (.call 76 [90,91,92]),o2 (.st 20 4 93)]) .ret))) (.seq (.reg [o1 95 (.bin .eql 26 (ci 6)),o1 94 (.mv 95)]) (.cond 94 (.seq (.reg [o1 97 (.faddr 13 2),o1 98 (.ld 2 true 97),o1 99 (.call 77 [98]),o1 96 (.mv 99),o1 100 (.ext 96 0),o1 101 (.ext 96 1),o1 102 (.ext 96 2),o1 9 (.alloc 29 [(.int .i64 0),.slnil]),o2 (.st 2 9 100),o1 10 (.mv 101),o1 11 (.mv 102)]) (.seq (.reg [o1 103 (.ld 2 true 9),o1 104 (.faddr 13 2),o2 (.st 2 104 103)]) (.seq (.reg [o1 105 (.ld 20 true 2),o1 106 (.mv 1),o1 107 (.call 70 [105,106,(ci 9)]),o2 (.st 20 2 107)]) (.seq (.seq (.reg [o1 108 (.mv 11)]) (.cond 108 (.reg [o1 109 (.ld 20 true 2),o1 110 (.mv 10),o1 111 (.call 78 [109,110]),o2 (.st 20 2 111)]) .skip)) (.seq (.reg [o1 112 (.ld 20 true 2),o2 (.st 20 4 112)]) .ret))))) (.seq (.reg [o1 114 (.bin .eql 26 (ci 7)),o1 113 (.mv 114)]) (.cond 113 (.seq (.seq (.reg [o1 115 (.ld 20 true 2),o1 116 (.call 94 [115]),o1 117 (.bin .eql 116 (ci 4)),o1 118 (.mv 117),o3 119 (.faddr 8 6) 118,o3 120 (.ld 1 false 119) 118,o3 121 (.not 120) 118,o1 122 (.pick 118 121 (.const (.bool false)))]) (.cond 122 (.seq (.reg [o1 123 (.ld 20 true 2),o1 124 (.mv 1),o1 125 (.call 70 [123,124,(ci 8)]),o2 (.st 20 4 125)]) .ret) .skip)) (.seq (.reg [o1 126 (.ld 20 true 2),o1 127 (.mv 1),o1 128 (.call 70 [126,127,(ci 2)]),o2 (.st 20 4 128)]) .ret)) (.seq (.reg [o1 130 (.bin .eql 26 (ci 8)),o1 129 (.mv 130)]) (.cond 129 (.seq (.reg [o1 131 (.ld 20 true 2),o1 132 (.mv 1),o1 133 (.call 95 [131,132]),o2 (.st 20 4 133)]) .ret) .skip)))))))))))))))))))) (.seq (.reg [o1 135 (.faddr 12 2),o1 136 (.ld 1 false 135),o1 137 (.mv 1),o1 138 (.call 81 [136,137]),o1 134 (.mv 138),o1 139 (.ext 134 0),o1 140 (.ext 134 1),o1 141 (.faddr 12 2),o2 (.st 1 (.tmp 141) 139)]) (.seq (.reg [o1 143 (.ld 11 true 6),o1 144 (.call 82 [(.tmp 143)]),o1 142 (.mv (.tmp 144)),o1 145 (.ext (.tmp 142) 0),o1 146 (.ext (.tmp 142) 1),o1 12 (.alloc 48 [(.int .i64 0),(.int .i64 0),(.int .i64 0),(.int .i64 0),(.int .i64 0),(.int .i64 0),(.int .i64 0),(.int .i64 0),(.bool false),(.int .i64 0),(.int .i64 0)]),o2 (.st 11 12 (.tmp 145)),o1 13 (.mv (.tmp 146))]) (.seq (.reg [o1 147 (.ld 20 true 2),o1 148 (.mv 1),o1 149 (.ld 11 true 12),o1 150 (.call 76 [(.tmp 147),(.tmp 148),(.tmp 149)]),o2 (.st 20 4 (.tmp 150))]) .ret)))))))),[(4,some (20,true))]⟩
theorem x28:xf Tryz.prog 28=some F28:=by kernel_rfl
theorem con28_0 {s:State} {id:Int} (hb:Bd s 1000000) (hI:gIs s id=true) (hpc:(s.threads.getD id.toNat default).pc=0):Con Tryz.prog 28 [.agg (encZ s),.int .i64 id] (.agg (encZ (gEnter s id)),[],[]):=by
  have hb':=hb
  unfold Bd at hb'
  have hT:s.threads.length≤100000000:=by omega
  have h7:s.log.length≤100000000:=by omega
  have hI':=hI
  simp only [gIs,fabIs,Bool.and_eq_true,decide_eq_true_eq] at hI'
  obtain ⟨⟨⟨⟨hchk,h0⟩,hlt⟩,hr⟩,hside⟩:=hI'
  have ht:=tries_of hchk h0 hlt
  clear hchk hside
  refine mcb_of_vc mix x28 (by simp [F28]) fun hw _=>?_
  clear hw
  repeat' with_reducible first|refine gTn_of (fun h=>?_) (fun h=>?_)|refine gT_of (fun h=>?_) (fun h=>?_)|refine caseTn_of (fun h=>?_) (fun h=>?_)|refine caseT_of (fun h=>?_) (fun h=>?_)|refine FN ?_ ?_ ?_ ?_ rfl ?_|refine kv_ifn ?_ ?_|refine kv_if ?_ ?_|refine k_if ?_ ?_|refine IA ?_ ?_ ?_|refine L1 ?_ ?_|refine L2 ?_ ?_|refine L3 ?_ ?_ ?_ ?_|refine L4 ?_ ?_|refine L5 ?_ ?_ ?_ ?_ ?_|refine L6 ?_ ?_ ?_ ?_ ?_|refine ia_of (d:=default) ?_ ?_|refine ap_of (rw_slv _ _ _) (by simp -implicitDefEqProofs only [m_get,Nat.reduceEqDiff,reduceIte,if_true,if_false]; first|done|exact rfl) ?_ ?_ ?_ ?_|refine ap_of (rw_slm _ _ _ _ _ _ (by simp -implicitDefEqProofs only [m_get,Nat.reduceEqDiff,reduceIte,if_true,if_false]; first|done|exact rfl) ?_) (by simp -implicitDefEqProofs only [m_get,Nat.reduceEqDiff,reduceIte,if_true,if_false]; first|done|exact rfl) ?_ ?_ ?_ ?_|refine AC.p0 (con76s ?_ ?_ ?_) ?_ (by simp -implicitDefEqProofs only [qU,pure_encZ]; done) ?_ ?_|refine AC.p0 (con176s ?_ ?_) ?_ (by simp -implicitDefEqProofs only [qU,pure_encZ]; done) ?_ ?_|refine AC.p0 (con78s ?_) ?_ (by simp -implicitDefEqProofs only [qU,pure_encZ]; done) ?_ ?_|refine AC.p0 (con70 ?_ ?_ ?_) ?_ (by simp -implicitDefEqProofs only [qU,pure_encZ]; done) ?_ ?_|refine AC.p0 (con162 ?_ ?_ ?_) ?_ (by simp -implicitDefEqProofs only [qU,pure_encZ]; done) ?_ ?_|refine AC.p0 (con161 ?_ ?_ ?_ ?_) ?_ (by simp -implicitDefEqProofs only [qU,pure_encZ]; done) ?_ ?_|refine AC.p0 (con160 ?_ ?_ ?_ ?_) ?_ (by simp -implicitDefEqProofs only [qU,pure_encZ]; done) ?_ ?_|refine AC.p0 (con174s ?_) ?_ (by simp -implicitDefEqProofs only [qU,pure_encZ]; done) ?_ ?_|refine AC.p0 (con90 ?_ ?_ ?_ ?_ ?_) ?_ ?_ ?_ ?_|refine AC.p0 (con91 ?_ ?_ ?_ ?_ ?_) ?_ ?_ ?_ ?_|refine AC.p0 (con92 ?_ ?_ ?_ ?_ ?_) ?_ ?_ ?_ ?_|refine AC.p0 (con95 ?_ ?_ ?_ ?_ ?_ ?_) ?_ ?_ ?_ ?_|refine AC.p0 (con94 ) ?_ (by simp -implicitDefEqProofs only [qU,pure_encZ]; done) ?_ ?_|refine AC.p0 (con52b ?_) ?_ (by simp -implicitDefEqProofs only [qU,pure_encZ]; done) ?_ ?_|refine AC.p0 (con77 ?_) ?_ (by simp -implicitDefEqProofs only [qU,pure_encZ]; done) ?_ ?_|refine AC.p0 (con69 ?_) ?_ (by simp -implicitDefEqProofs only [qU,pure_encZ]; done) ?_ ?_|refine AC.p0 (con81 ?_) ?_ (by simp -implicitDefEqProofs only [qU,pure_encZ]; done) ?_ ?_|refine P0 (con93) ?_ ?_ ?_|refine ACV.of (con93) ?_ ?_ ?_|refine ACK.of (con93) ?_ ?_|refine P0 (con84) ?_ ?_ ?_|refine ACV.of (con84) ?_ ?_ ?_|refine ACK.of (con84) ?_ ?_|refine P0 (con75) ?_ ?_ ?_|refine ACV.of (con75) ?_ ?_ ?_|refine ACK.of (con75) ?_ ?_|refine P0 (con82) ?_ ?_ ?_|refine ACV.of (con82) ?_ ?_ ?_|refine ACK.of (con82) ?_ ?_|simp -implicitDefEqProofs only [F28,qA,ld_0,ld_pv,st_0,doEqs,qU,List.reduceReplicate,Nat.reduceAdd,Nat.reduceSub,Nat.reduceLeDiff,Nat.reduceEqDiff,Nat.reduceMul,reduceIte,reduceCtorEq,qI,Nat.reduceLT,Nat.reduceBEq,up_s,Int.toNat_natCast,encT,qZ,splice_c,sp_word,sp_slots,sp_sends,sp_recvs,sp_full,sp_empty,sp_allZ,sp_allW,sp_allV,qC,encW,encV,Int.natCast_zero,ev_f,ev_e,hpc,hI,Int.reduceEq,Int.reduceNe, *]
  all_goals first
    | omega
    | exact Wk.refl _
    | exact ht
    | exact hr
    | (simp only [pures,AV.pure,pure_encZ,pure_encC7,Bool.and_true]; done)
    | exact ⟨h0,hlt⟩
    | exact h0
    | exact hlt
    | exact hT
    | exact h7
    | (rw [tell_len]; first | exact hT | exact hlt)
    | (simp only [withWord,withSlots,withSends,withRecvs,withFull,withEmpty,put1,List.length_set]; first | exact hT | exact h7 | exact hlt | omega)
    | exact hI
    | trace_state

theorem con28_1 {s:State} {id:Int} (hb:Bd s 1000000) (hI:gIs s id=true) (hpc:(s.threads.getD id.toNat default).pc=1):Con Tryz.prog 28 [.agg (encZ s),.int .i64 id] (.agg (encZ (gFirst s id)),[],[]):=by
  have hb':=hb
  unfold Bd at hb'
  have hT:s.threads.length≤100000000:=by omega
  have h7:s.log.length≤100000000:=by omega
  have hI':=hI
  simp only [gIs,fabIs,Bool.and_eq_true,decide_eq_true_eq] at hI'
  obtain ⟨⟨⟨⟨hchk,h0⟩,hlt⟩,hr⟩,hside⟩:=hI'
  have ht:=tries_of hchk h0 hlt
  clear hchk hside
  refine mcb_of_vc mix x28 (by simp [F28]) fun hw _=>?_
  clear hw
  repeat' with_reducible first|refine gTn_of (fun h=>?_) (fun h=>?_)|refine gT_of (fun h=>?_) (fun h=>?_)|refine caseTn_of (fun h=>?_) (fun h=>?_)|refine caseT_of (fun h=>?_) (fun h=>?_)|refine FN ?_ ?_ ?_ ?_ rfl ?_|refine kv_ifn ?_ ?_|refine kv_if ?_ ?_|refine k_if ?_ ?_|refine IA ?_ ?_ ?_|refine L1 ?_ ?_|refine L2 ?_ ?_|refine L3 ?_ ?_ ?_ ?_|refine L4 ?_ ?_|refine L5 ?_ ?_ ?_ ?_ ?_|refine L6 ?_ ?_ ?_ ?_ ?_|refine ia_of (d:=default) ?_ ?_|refine ap_of (rw_slv _ _ _) (by simp -implicitDefEqProofs only [m_get,Nat.reduceEqDiff,reduceIte,if_true,if_false]; first|done|exact rfl) ?_ ?_ ?_ ?_|refine ap_of (rw_slm _ _ _ _ _ _ (by simp -implicitDefEqProofs only [m_get,Nat.reduceEqDiff,reduceIte,if_true,if_false]; first|done|exact rfl) ?_) (by simp -implicitDefEqProofs only [m_get,Nat.reduceEqDiff,reduceIte,if_true,if_false]; first|done|exact rfl) ?_ ?_ ?_ ?_|refine AC.p0 (con76s ?_ ?_ ?_) ?_ (by simp -implicitDefEqProofs only [qU,pure_encZ]; done) ?_ ?_|refine AC.p0 (con176s ?_ ?_) ?_ (by simp -implicitDefEqProofs only [qU,pure_encZ]; done) ?_ ?_|refine AC.p0 (con78s ?_) ?_ (by simp -implicitDefEqProofs only [qU,pure_encZ]; done) ?_ ?_|refine AC.p0 (con70 ?_ ?_ ?_) ?_ (by simp -implicitDefEqProofs only [qU,pure_encZ]; done) ?_ ?_|refine AC.p0 (con162 ?_ ?_ ?_) ?_ (by simp -implicitDefEqProofs only [qU,pure_encZ]; done) ?_ ?_|refine AC.p0 (con161 ?_ ?_ ?_ ?_) ?_ (by simp -implicitDefEqProofs only [qU,pure_encZ]; done) ?_ ?_|refine AC.p0 (con160 ?_ ?_ ?_ ?_) ?_ (by simp -implicitDefEqProofs only [qU,pure_encZ]; done) ?_ ?_|refine AC.p0 (con174s ?_) ?_ (by simp -implicitDefEqProofs only [qU,pure_encZ]; done) ?_ ?_|refine AC.p0 (con90 ?_ ?_ ?_ ?_ ?_) ?_ ?_ ?_ ?_|refine AC.p0 (con91 ?_ ?_ ?_ ?_ ?_) ?_ ?_ ?_ ?_|refine AC.p0 (con92 ?_ ?_ ?_ ?_ ?_) ?_ ?_ ?_ ?_|refine AC.p0 (con95 ?_ ?_ ?_ ?_ ?_ ?_) ?_ ?_ ?_ ?_|refine AC.p0 (con94 ) ?_ (by simp -implicitDefEqProofs only [qU,pure_encZ]; done) ?_ ?_|refine AC.p0 (con52b ?_) ?_ (by simp -implicitDefEqProofs only [qU,pure_encZ]; done) ?_ ?_|refine AC.p0 (con77 ?_) ?_ (by simp -implicitDefEqProofs only [qU,pure_encZ]; done) ?_ ?_|refine AC.p0 (con69 ?_) ?_ (by simp -implicitDefEqProofs only [qU,pure_encZ]; done) ?_ ?_|refine AC.p0 (con81 ?_) ?_ (by simp -implicitDefEqProofs only [qU,pure_encZ]; done) ?_ ?_|refine P0 (con93) ?_ ?_ ?_|refine ACV.of (con93) ?_ ?_ ?_|refine ACK.of (con93) ?_ ?_|refine P0 (con84) ?_ ?_ ?_|refine ACV.of (con84) ?_ ?_ ?_|refine ACK.of (con84) ?_ ?_|refine P0 (con75) ?_ ?_ ?_|refine ACV.of (con75) ?_ ?_ ?_|refine ACK.of (con75) ?_ ?_|refine P0 (con82) ?_ ?_ ?_|refine ACV.of (con82) ?_ ?_ ?_|refine ACK.of (con82) ?_ ?_|simp -implicitDefEqProofs only [F28,qA,ld_0,ld_pv,st_0,doEqs,qU,List.reduceReplicate,Nat.reduceAdd,Nat.reduceSub,Nat.reduceLeDiff,Nat.reduceEqDiff,Nat.reduceMul,reduceIte,reduceCtorEq,qI,Nat.reduceLT,Nat.reduceBEq,up_s,Int.toNat_natCast,encT,qZ,splice_c,sp_word,sp_slots,sp_sends,sp_recvs,sp_full,sp_empty,sp_allZ,sp_allW,sp_allV,qC,encW,encV,Int.natCast_zero,ev_f,ev_e,hpc,hI,Int.reduceEq,Int.reduceNe, *]
  all_goals first
    | omega
    | exact Wk.refl _
    | exact ht
    | exact hr
    | (simp only [pures,AV.pure,pure_encZ,pure_encC7,Bool.and_true]; done)
    | exact ⟨h0,hlt⟩
    | exact h0
    | exact hlt
    | exact hT
    | exact h7
    | (rw [tell_len]; first | exact hT | exact hlt)
    | (simp only [withWord,withSlots,withSends,withRecvs,withFull,withEmpty,put1,List.length_set]; first | exact hT | exact h7 | exact hlt | omega)
    | exact hI
    | trace_state

theorem con28_2 {s:State} {id:Int} (hb:Bd s 1000000) (hI:gIs s id=true) (hpc:(s.threads.getD id.toNat default).pc=2):Con Tryz.prog 28 [.agg (encZ s),.int .i64 id] (.agg (encZ (gLook s id)),[],[]):=by
  have hb':=hb
  unfold Bd at hb'
  have hT:s.threads.length≤100000000:=by omega
  have h7:s.log.length≤100000000:=by omega
  have hI':=hI
  simp only [gIs,fabIs,Bool.and_eq_true,decide_eq_true_eq] at hI'
  obtain ⟨⟨⟨⟨hchk,h0⟩,hlt⟩,hr⟩,hside⟩:=hI'
  have ht:=tries_of hchk h0 hlt
  clear hchk hside
  refine mcb_of_vc mix x28 (by simp [F28]) fun hw _=>?_
  clear hw
  repeat' with_reducible first|refine gTn_of (fun h=>?_) (fun h=>?_)|refine gT_of (fun h=>?_) (fun h=>?_)|refine caseTn_of (fun h=>?_) (fun h=>?_)|refine caseT_of (fun h=>?_) (fun h=>?_)|refine FN ?_ ?_ ?_ ?_ rfl ?_|refine kv_ifn ?_ ?_|refine kv_if ?_ ?_|refine k_if ?_ ?_|refine IA ?_ ?_ ?_|refine L1 ?_ ?_|refine L2 ?_ ?_|refine L3 ?_ ?_ ?_ ?_|refine L4 ?_ ?_|refine L5 ?_ ?_ ?_ ?_ ?_|refine L6 ?_ ?_ ?_ ?_ ?_|refine ia_of (d:=default) ?_ ?_|refine ap_of (rw_slv _ _ _) (by simp -implicitDefEqProofs only [m_get,Nat.reduceEqDiff,reduceIte,if_true,if_false]; first|done|exact rfl) ?_ ?_ ?_ ?_|refine ap_of (rw_slm _ _ _ _ _ _ (by simp -implicitDefEqProofs only [m_get,Nat.reduceEqDiff,reduceIte,if_true,if_false]; first|done|exact rfl) ?_) (by simp -implicitDefEqProofs only [m_get,Nat.reduceEqDiff,reduceIte,if_true,if_false]; first|done|exact rfl) ?_ ?_ ?_ ?_|refine AC.p0 (con76s ?_ ?_ ?_) ?_ (by simp -implicitDefEqProofs only [qU,pure_encZ]; done) ?_ ?_|refine AC.p0 (con176s ?_ ?_) ?_ (by simp -implicitDefEqProofs only [qU,pure_encZ]; done) ?_ ?_|refine AC.p0 (con78s ?_) ?_ (by simp -implicitDefEqProofs only [qU,pure_encZ]; done) ?_ ?_|refine AC.p0 (con70 ?_ ?_ ?_) ?_ (by simp -implicitDefEqProofs only [qU,pure_encZ]; done) ?_ ?_|refine AC.p0 (con162 ?_ ?_ ?_) ?_ (by simp -implicitDefEqProofs only [qU,pure_encZ]; done) ?_ ?_|refine AC.p0 (con161 ?_ ?_ ?_ ?_) ?_ (by simp -implicitDefEqProofs only [qU,pure_encZ]; done) ?_ ?_|refine AC.p0 (con160 ?_ ?_ ?_ ?_) ?_ (by simp -implicitDefEqProofs only [qU,pure_encZ]; done) ?_ ?_|refine AC.p0 (con174s ?_) ?_ (by simp -implicitDefEqProofs only [qU,pure_encZ]; done) ?_ ?_|refine AC.p0 (con90 ?_ ?_ ?_ ?_ ?_) ?_ ?_ ?_ ?_|refine AC.p0 (con91 ?_ ?_ ?_ ?_ ?_) ?_ ?_ ?_ ?_|refine AC.p0 (con92 ?_ ?_ ?_ ?_ ?_) ?_ ?_ ?_ ?_|refine AC.p0 (con95 ?_ ?_ ?_ ?_ ?_ ?_) ?_ ?_ ?_ ?_|refine AC.p0 (con94 ) ?_ (by simp -implicitDefEqProofs only [qU,pure_encZ]; done) ?_ ?_|refine AC.p0 (con52b ?_) ?_ (by simp -implicitDefEqProofs only [qU,pure_encZ]; done) ?_ ?_|refine AC.p0 (con77 ?_) ?_ (by simp -implicitDefEqProofs only [qU,pure_encZ]; done) ?_ ?_|refine AC.p0 (con69 ?_) ?_ (by simp -implicitDefEqProofs only [qU,pure_encZ]; done) ?_ ?_|refine AC.p0 (con81 ?_) ?_ (by simp -implicitDefEqProofs only [qU,pure_encZ]; done) ?_ ?_|refine P0 (con93) ?_ ?_ ?_|refine ACV.of (con93) ?_ ?_ ?_|refine ACK.of (con93) ?_ ?_|refine P0 (con84) ?_ ?_ ?_|refine ACV.of (con84) ?_ ?_ ?_|refine ACK.of (con84) ?_ ?_|refine P0 (con75) ?_ ?_ ?_|refine ACV.of (con75) ?_ ?_ ?_|refine ACK.of (con75) ?_ ?_|refine P0 (con82) ?_ ?_ ?_|refine ACV.of (con82) ?_ ?_ ?_|refine ACK.of (con82) ?_ ?_|simp -implicitDefEqProofs only [F28,qA,ld_0,ld_pv,st_0,doEqs,qU,List.reduceReplicate,Nat.reduceAdd,Nat.reduceSub,Nat.reduceLeDiff,Nat.reduceEqDiff,Nat.reduceMul,reduceIte,reduceCtorEq,qI,Nat.reduceLT,Nat.reduceBEq,up_s,Int.toNat_natCast,encT,qZ,splice_c,sp_word,sp_slots,sp_sends,sp_recvs,sp_full,sp_empty,sp_allZ,sp_allW,sp_allV,qC,encW,encV,Int.natCast_zero,ev_f,ev_e,hpc,hI,Int.reduceEq,Int.reduceNe, *]
  all_goals first
    | omega
    | exact Wk.refl _
    | exact ht
    | exact hr
    | (simp only [pures,AV.pure,pure_encZ,pure_encC7,Bool.and_true]; done)
    | exact ⟨h0,hlt⟩
    | exact h0
    | exact hlt
    | exact hT
    | exact h7
    | (rw [tell_len]; first | exact hT | exact hlt)
    | (simp only [withWord,withSlots,withSends,withRecvs,withFull,withEmpty,put1,List.length_set]; first | exact hT | exact h7 | exact hlt | omega)
    | exact hI
    | trace_state

theorem con28_3 {s:State} {id:Int} (hb:Bd s 1000000) (hI:gIs s id=true) (hpc:(s.threads.getD id.toNat default).pc=3):Con Tryz.prog 28 [.agg (encZ s),.int .i64 id] (.agg (encZ (gTake s id)),[],[]):=by
  have hb':=hb
  unfold Bd at hb'
  have hT:s.threads.length≤100000000:=by omega
  have h7:s.log.length≤100000000:=by omega
  have hI':=hI
  simp only [gIs,fabIs,Bool.and_eq_true,decide_eq_true_eq] at hI'
  obtain ⟨⟨⟨⟨hchk,h0⟩,hlt⟩,hr⟩,hside⟩:=hI'
  have ht:=tries_of hchk h0 hlt
  clear hchk hside
  refine mcb_of_vc mix x28 (by simp [F28]) fun hw _=>?_
  clear hw
  repeat' with_reducible first|refine gTn_of (fun h=>?_) (fun h=>?_)|refine gT_of (fun h=>?_) (fun h=>?_)|refine caseTn_of (fun h=>?_) (fun h=>?_)|refine caseT_of (fun h=>?_) (fun h=>?_)|refine FN ?_ ?_ ?_ ?_ rfl ?_|refine kv_ifn ?_ ?_|refine kv_if ?_ ?_|refine k_if ?_ ?_|refine IA ?_ ?_ ?_|refine L1 ?_ ?_|refine L2 ?_ ?_|refine L3 ?_ ?_ ?_ ?_|refine L4 ?_ ?_|refine L5 ?_ ?_ ?_ ?_ ?_|refine L6 ?_ ?_ ?_ ?_ ?_|refine ia_of (d:=default) ?_ ?_|refine ap_of (rw_slv _ _ _) (by simp -implicitDefEqProofs only [m_get,Nat.reduceEqDiff,reduceIte,if_true,if_false]; first|done|exact rfl) ?_ ?_ ?_ ?_|refine ap_of (rw_slm _ _ _ _ _ _ (by simp -implicitDefEqProofs only [m_get,Nat.reduceEqDiff,reduceIte,if_true,if_false]; first|done|exact rfl) ?_) (by simp -implicitDefEqProofs only [m_get,Nat.reduceEqDiff,reduceIte,if_true,if_false]; first|done|exact rfl) ?_ ?_ ?_ ?_|refine AC.p0 (con76s ?_ ?_ ?_) ?_ (by simp -implicitDefEqProofs only [qU,pure_encZ]; done) ?_ ?_|refine AC.p0 (con176s ?_ ?_) ?_ (by simp -implicitDefEqProofs only [qU,pure_encZ]; done) ?_ ?_|refine AC.p0 (con78s ?_) ?_ (by simp -implicitDefEqProofs only [qU,pure_encZ]; done) ?_ ?_|refine AC.p0 (con70 ?_ ?_ ?_) ?_ (by simp -implicitDefEqProofs only [qU,pure_encZ]; done) ?_ ?_|refine AC.p0 (con162 ?_ ?_ ?_) ?_ (by simp -implicitDefEqProofs only [qU,pure_encZ]; done) ?_ ?_|refine AC.p0 (con161 ?_ ?_ ?_ ?_) ?_ (by simp -implicitDefEqProofs only [qU,pure_encZ]; done) ?_ ?_|refine AC.p0 (con160 ?_ ?_ ?_ ?_) ?_ (by simp -implicitDefEqProofs only [qU,pure_encZ]; done) ?_ ?_|refine AC.p0 (con174s ?_) ?_ (by simp -implicitDefEqProofs only [qU,pure_encZ]; done) ?_ ?_|refine AC.p0 (con90 ?_ ?_ ?_ ?_ ?_) ?_ ?_ ?_ ?_|refine AC.p0 (con91 ?_ ?_ ?_ ?_ ?_) ?_ ?_ ?_ ?_|refine AC.p0 (con92 ?_ ?_ ?_ ?_ ?_) ?_ ?_ ?_ ?_|refine AC.p0 (con95 ?_ ?_ ?_ ?_ ?_ ?_) ?_ ?_ ?_ ?_|refine AC.p0 (con94 ) ?_ (by simp -implicitDefEqProofs only [qU,pure_encZ]; done) ?_ ?_|refine AC.p0 (con52b ?_) ?_ (by simp -implicitDefEqProofs only [qU,pure_encZ]; done) ?_ ?_|refine AC.p0 (con77 ?_) ?_ (by simp -implicitDefEqProofs only [qU,pure_encZ]; done) ?_ ?_|refine AC.p0 (con69 ?_) ?_ (by simp -implicitDefEqProofs only [qU,pure_encZ]; done) ?_ ?_|refine AC.p0 (con81 ?_) ?_ (by simp -implicitDefEqProofs only [qU,pure_encZ]; done) ?_ ?_|refine P0 (con93) ?_ ?_ ?_|refine ACV.of (con93) ?_ ?_ ?_|refine ACK.of (con93) ?_ ?_|refine P0 (con84) ?_ ?_ ?_|refine ACV.of (con84) ?_ ?_ ?_|refine ACK.of (con84) ?_ ?_|refine P0 (con75) ?_ ?_ ?_|refine ACV.of (con75) ?_ ?_ ?_|refine ACK.of (con75) ?_ ?_|refine P0 (con82) ?_ ?_ ?_|refine ACV.of (con82) ?_ ?_ ?_|refine ACK.of (con82) ?_ ?_|simp -implicitDefEqProofs only [F28,qA,ld_0,ld_pv,st_0,doEqs,qU,List.reduceReplicate,Nat.reduceAdd,Nat.reduceSub,Nat.reduceLeDiff,Nat.reduceEqDiff,Nat.reduceMul,reduceIte,reduceCtorEq,qI,Nat.reduceLT,Nat.reduceBEq,up_s,Int.toNat_natCast,encT,qZ,splice_c,sp_word,sp_slots,sp_sends,sp_recvs,sp_full,sp_empty,sp_allZ,sp_allW,sp_allV,qC,encW,encV,Int.natCast_zero,ev_f,ev_e,hpc,hI,Int.reduceEq,Int.reduceNe, *]
  all_goals first
    | omega
    | exact Wk.refl _
    | exact ht
    | exact hr
    | (simp only [pures,AV.pure,pure_encZ,pure_encC7,Bool.and_true]; done)
    | exact ⟨h0,hlt⟩
    | exact h0
    | exact hlt
    | exact hT
    | exact h7
    | (rw [tell_len]; first | exact hT | exact hlt)
    | (simp only [withWord,withSlots,withSends,withRecvs,withFull,withEmpty,put1,List.length_set]; first | exact hT | exact h7 | exact hlt | omega)
    | exact hI
    | trace_state

theorem con28_4 {s:State} {id:Int} (hb:Bd s 1000000) (hI:gIs s id=true) (hpc:(s.threads.getD id.toNat default).pc=4):Con Tryz.prog 28 [.agg (encZ s),.int .i64 id] (.agg (encZ (gRead s id)),[],[]):=by
  have hb':=hb
  unfold Bd at hb'
  have hT:s.threads.length≤100000000:=by omega
  have h7:s.log.length≤100000000:=by omega
  have hI':=hI
  simp only [gIs,fabIs,Bool.and_eq_true,decide_eq_true_eq] at hI'
  obtain ⟨⟨⟨⟨hchk,h0⟩,hlt⟩,hr⟩,hside⟩:=hI'
  have ht:=tries_of hchk h0 hlt
  clear hchk hside
  refine mcb_of_vc mix x28 (by simp [F28]) fun hw _=>?_
  clear hw
  repeat' with_reducible first|refine gTn_of (fun h=>?_) (fun h=>?_)|refine gT_of (fun h=>?_) (fun h=>?_)|refine caseTn_of (fun h=>?_) (fun h=>?_)|refine caseT_of (fun h=>?_) (fun h=>?_)|refine FN ?_ ?_ ?_ ?_ rfl ?_|refine kv_ifn ?_ ?_|refine kv_if ?_ ?_|refine k_if ?_ ?_|refine IA ?_ ?_ ?_|refine L1 ?_ ?_|refine L2 ?_ ?_|refine L3 ?_ ?_ ?_ ?_|refine L4 ?_ ?_|refine L5 ?_ ?_ ?_ ?_ ?_|refine L6 ?_ ?_ ?_ ?_ ?_|refine ia_of (d:=default) ?_ ?_|refine ap_of (rw_slv _ _ _) (by simp -implicitDefEqProofs only [m_get,Nat.reduceEqDiff,reduceIte,if_true,if_false]; first|done|exact rfl) ?_ ?_ ?_ ?_|refine ap_of (rw_slm _ _ _ _ _ _ (by simp -implicitDefEqProofs only [m_get,Nat.reduceEqDiff,reduceIte,if_true,if_false]; first|done|exact rfl) ?_) (by simp -implicitDefEqProofs only [m_get,Nat.reduceEqDiff,reduceIte,if_true,if_false]; first|done|exact rfl) ?_ ?_ ?_ ?_|refine AC.p0 (con76s ?_ ?_ ?_) ?_ (by simp -implicitDefEqProofs only [qU,pure_encZ]; done) ?_ ?_|refine AC.p0 (con176s ?_ ?_) ?_ (by simp -implicitDefEqProofs only [qU,pure_encZ]; done) ?_ ?_|refine AC.p0 (con78s ?_) ?_ (by simp -implicitDefEqProofs only [qU,pure_encZ]; done) ?_ ?_|refine AC.p0 (con70 ?_ ?_ ?_) ?_ (by simp -implicitDefEqProofs only [qU,pure_encZ]; done) ?_ ?_|refine AC.p0 (con162 ?_ ?_ ?_) ?_ (by simp -implicitDefEqProofs only [qU,pure_encZ]; done) ?_ ?_|refine AC.p0 (con161 ?_ ?_ ?_ ?_) ?_ (by simp -implicitDefEqProofs only [qU,pure_encZ]; done) ?_ ?_|refine AC.p0 (con160 ?_ ?_ ?_ ?_) ?_ (by simp -implicitDefEqProofs only [qU,pure_encZ]; done) ?_ ?_|refine AC.p0 (con174s ?_) ?_ (by simp -implicitDefEqProofs only [qU,pure_encZ]; done) ?_ ?_|refine AC.p0 (con90 ?_ ?_ ?_ ?_ ?_) ?_ ?_ ?_ ?_|refine AC.p0 (con91 ?_ ?_ ?_ ?_ ?_) ?_ ?_ ?_ ?_|refine AC.p0 (con92 ?_ ?_ ?_ ?_ ?_) ?_ ?_ ?_ ?_|refine AC.p0 (con95 ?_ ?_ ?_ ?_ ?_ ?_) ?_ ?_ ?_ ?_|refine AC.p0 (con94 ) ?_ (by simp -implicitDefEqProofs only [qU,pure_encZ]; done) ?_ ?_|refine AC.p0 (con52b ?_) ?_ (by simp -implicitDefEqProofs only [qU,pure_encZ]; done) ?_ ?_|refine AC.p0 (con77 ?_) ?_ (by simp -implicitDefEqProofs only [qU,pure_encZ]; done) ?_ ?_|refine AC.p0 (con69 ?_) ?_ (by simp -implicitDefEqProofs only [qU,pure_encZ]; done) ?_ ?_|refine AC.p0 (con81 ?_) ?_ (by simp -implicitDefEqProofs only [qU,pure_encZ]; done) ?_ ?_|refine P0 (con93) ?_ ?_ ?_|refine ACV.of (con93) ?_ ?_ ?_|refine ACK.of (con93) ?_ ?_|refine P0 (con84) ?_ ?_ ?_|refine ACV.of (con84) ?_ ?_ ?_|refine ACK.of (con84) ?_ ?_|refine P0 (con75) ?_ ?_ ?_|refine ACV.of (con75) ?_ ?_ ?_|refine ACK.of (con75) ?_ ?_|refine P0 (con82) ?_ ?_ ?_|refine ACV.of (con82) ?_ ?_ ?_|refine ACK.of (con82) ?_ ?_|simp -implicitDefEqProofs only [F28,qA,ld_0,ld_pv,st_0,doEqs,qU,List.reduceReplicate,Nat.reduceAdd,Nat.reduceSub,Nat.reduceLeDiff,Nat.reduceEqDiff,Nat.reduceMul,reduceIte,reduceCtorEq,qI,Nat.reduceLT,Nat.reduceBEq,up_s,Int.toNat_natCast,encT,qZ,splice_c,sp_word,sp_slots,sp_sends,sp_recvs,sp_full,sp_empty,sp_allZ,sp_allW,sp_allV,qC,encW,encV,Int.natCast_zero,ev_f,ev_e,hpc,hI,Int.reduceEq,Int.reduceNe, *]
  all_goals first
    | omega
    | exact Wk.refl _
    | exact ht
    | exact hr
    | (simp only [pures,AV.pure,pure_encZ,pure_encC7,Bool.and_true]; done)
    | exact ⟨h0,hlt⟩
    | exact h0
    | exact hlt
    | exact hT
    | exact h7
    | (rw [tell_len]; first | exact hT | exact hlt)
    | (simp only [withWord,withSlots,withSends,withRecvs,withFull,withEmpty,put1,List.length_set]; first | exact hT | exact h7 | exact hlt | omega)
    | exact hI
    | (have hid:id.toNat<s.threads.length:=by omega
       have h5:(slotRelease s.slots (me s id).reg).2=0:=(show (slotRelease s.slots (me s id).reg).2=0 from of_decide_eq_true (by assumption))
       refine Wk.of_eq ?_; unfold gRead; simp only [rAt,withSlots,put1,me,getD_set_same hid,set_set]; rfl)
    | (have hid:id.toNat<s.threads.length:=by omega
       have h5:¬ (slotRelease s.slots (me s id).reg).2=0:=(show ¬ (slotRelease s.slots (me s id).reg).2=0 from of_decide_eq_false (by assumption))
       refine Wk.of_eq ?_; unfold gRead; rw [rl_same h5]; simp only [rAt,withSlots,put1,me,getD_set_same hid,set_set]; rfl)
    | trace_state

theorem con28_5 {s:State} {id:Int} (hb:Bd s 1000000) (hI:gIs s id=true) (hpc:(s.threads.getD id.toNat default).pc=5):Con Tryz.prog 28 [.agg (encZ s),.int .i64 id] (.agg (encZ (gPrepare s id)),[],[]):=by
  have hb':=hb
  unfold Bd at hb'
  have hT:s.threads.length≤100000000:=by omega
  have h7:s.log.length≤100000000:=by omega
  have hI':=hI
  simp only [gIs,fabIs,Bool.and_eq_true,decide_eq_true_eq] at hI'
  obtain ⟨⟨⟨⟨hchk,h0⟩,hlt⟩,hr⟩,hside⟩:=hI'
  have ht:=tries_of hchk h0 hlt
  clear hchk hside
  refine mcb_of_vc mix x28 (by simp [F28]) fun hw _=>?_
  clear hw
  repeat' with_reducible first|refine gTn_of (fun h=>?_) (fun h=>?_)|refine gT_of (fun h=>?_) (fun h=>?_)|refine caseTn_of (fun h=>?_) (fun h=>?_)|refine caseT_of (fun h=>?_) (fun h=>?_)|refine FN ?_ ?_ ?_ ?_ rfl ?_|refine kv_ifn ?_ ?_|refine kv_if ?_ ?_|refine k_if ?_ ?_|refine IA ?_ ?_ ?_|refine L1 ?_ ?_|refine L2 ?_ ?_|refine L3 ?_ ?_ ?_ ?_|refine L4 ?_ ?_|refine L5 ?_ ?_ ?_ ?_ ?_|refine L6 ?_ ?_ ?_ ?_ ?_|refine ia_of (d:=default) ?_ ?_|refine ap_of (rw_slv _ _ _) (by simp -implicitDefEqProofs only [m_get,Nat.reduceEqDiff,reduceIte,if_true,if_false]; first|done|exact rfl) ?_ ?_ ?_ ?_|refine ap_of (rw_slm _ _ _ _ _ _ (by simp -implicitDefEqProofs only [m_get,Nat.reduceEqDiff,reduceIte,if_true,if_false]; first|done|exact rfl) ?_) (by simp -implicitDefEqProofs only [m_get,Nat.reduceEqDiff,reduceIte,if_true,if_false]; first|done|exact rfl) ?_ ?_ ?_ ?_|refine AC.p0 (con76s ?_ ?_ ?_) ?_ (by simp -implicitDefEqProofs only [qU,pure_encZ]; done) ?_ ?_|refine AC.p0 (con176s ?_ ?_) ?_ (by simp -implicitDefEqProofs only [qU,pure_encZ]; done) ?_ ?_|refine AC.p0 (con78s ?_) ?_ (by simp -implicitDefEqProofs only [qU,pure_encZ]; done) ?_ ?_|refine AC.p0 (con70 ?_ ?_ ?_) ?_ (by simp -implicitDefEqProofs only [qU,pure_encZ]; done) ?_ ?_|refine AC.p0 (con162 ?_ ?_ ?_) ?_ (by simp -implicitDefEqProofs only [qU,pure_encZ]; done) ?_ ?_|refine AC.p0 (con161 ?_ ?_ ?_ ?_) ?_ (by simp -implicitDefEqProofs only [qU,pure_encZ]; done) ?_ ?_|refine AC.p0 (con160 ?_ ?_ ?_ ?_) ?_ (by simp -implicitDefEqProofs only [qU,pure_encZ]; done) ?_ ?_|refine AC.p0 (con174s ?_) ?_ (by simp -implicitDefEqProofs only [qU,pure_encZ]; done) ?_ ?_|refine AC.p0 (con90 ?_ ?_ ?_ ?_ ?_) ?_ ?_ ?_ ?_|refine AC.p0 (con91 ?_ ?_ ?_ ?_ ?_) ?_ ?_ ?_ ?_|refine AC.p0 (con92 ?_ ?_ ?_ ?_ ?_) ?_ ?_ ?_ ?_|refine AC.p0 (con95 ?_ ?_ ?_ ?_ ?_ ?_) ?_ ?_ ?_ ?_|refine AC.p0 (con94 ) ?_ (by simp -implicitDefEqProofs only [qU,pure_encZ]; done) ?_ ?_|refine AC.p0 (con52b ?_) ?_ (by simp -implicitDefEqProofs only [qU,pure_encZ]; done) ?_ ?_|refine AC.p0 (con77 ?_) ?_ (by simp -implicitDefEqProofs only [qU,pure_encZ]; done) ?_ ?_|refine AC.p0 (con69 ?_) ?_ (by simp -implicitDefEqProofs only [qU,pure_encZ]; done) ?_ ?_|refine AC.p0 (con81 ?_) ?_ (by simp -implicitDefEqProofs only [qU,pure_encZ]; done) ?_ ?_|refine P0 (con93) ?_ ?_ ?_|refine ACV.of (con93) ?_ ?_ ?_|refine ACK.of (con93) ?_ ?_|refine P0 (con84) ?_ ?_ ?_|refine ACV.of (con84) ?_ ?_ ?_|refine ACK.of (con84) ?_ ?_|refine P0 (con75) ?_ ?_ ?_|refine ACV.of (con75) ?_ ?_ ?_|refine ACK.of (con75) ?_ ?_|refine P0 (con82) ?_ ?_ ?_|refine ACV.of (con82) ?_ ?_ ?_|refine ACK.of (con82) ?_ ?_|simp -implicitDefEqProofs only [F28,qA,ld_0,ld_pv,st_0,doEqs,qU,List.reduceReplicate,Nat.reduceAdd,Nat.reduceSub,Nat.reduceLeDiff,Nat.reduceEqDiff,Nat.reduceMul,reduceIte,reduceCtorEq,qI,Nat.reduceLT,Nat.reduceBEq,up_s,Int.toNat_natCast,encT,qZ,splice_c,sp_word,sp_slots,sp_sends,sp_recvs,sp_full,sp_empty,sp_allZ,sp_allW,sp_allV,qC,encW,encV,Int.natCast_zero,ev_f,ev_e,hpc,hI,Int.reduceEq,Int.reduceNe, *]
  all_goals first
    | omega
    | exact Wk.refl _
    | exact ht
    | exact hr
    | (simp only [pures,AV.pure,pure_encZ,pure_encC7,Bool.and_true]; done)
    | exact ⟨h0,hlt⟩
    | exact h0
    | exact hlt
    | exact hT
    | exact h7
    | (rw [tell_len]; first | exact hT | exact hlt)
    | (simp only [withWord,withSlots,withSends,withRecvs,withFull,withEmpty,put1,List.length_set]; first | exact hT | exact h7 | exact hlt | omega)
    | exact hI
    | (have hid:id.toNat<s.threads.length:=by omega
       refine Wk.of_eq ?_; unfold gPrepare; simp only [rAt,put1,me,getD_set_same hid,set_set]; rfl)
    | trace_state

theorem con28_6 {s:State} {id:Int} (hb:Bd s 1000000) (hI:gIs s id=true) (hpc:(s.threads.getD id.toNat default).pc=6):Con Tryz.prog 28 [.agg (encZ s),.int .i64 id] (.agg (encZ (gNotify s id)),[],[]):=by
  have hb':=hb
  unfold Bd at hb'
  have hT:s.threads.length≤100000000:=by omega
  have h7:s.log.length≤100000000:=by omega
  have hI':=hI
  simp only [gIs,fabIs,Bool.and_eq_true,decide_eq_true_eq] at hI'
  obtain ⟨⟨⟨⟨hchk,h0⟩,hlt⟩,hr⟩,hside⟩:=hI'
  have ht:=tries_of hchk h0 hlt
  clear hchk hside
  have hRE:Rn (withFull s (vNotify s.full).1) id:=by
    have hR:Rn s id:=rn_of (by simp only [gIs,Bool.and_eq_true] at hI; exact hI.1.1) hr
    have hn:=vn_ok hR.fab.full hR.fab.fl
    exact hR.fu hn.2 hn.1
  refine mcb_of_vc mix x28 (by simp [F28]) fun hw _=>?_
  clear hw
  repeat' with_reducible first|refine gTn_of (fun h=>?_) (fun h=>?_)|refine gT_of (fun h=>?_) (fun h=>?_)|refine caseTn_of (fun h=>?_) (fun h=>?_)|refine caseT_of (fun h=>?_) (fun h=>?_)|refine FN ?_ ?_ ?_ ?_ rfl ?_|refine kv_ifn ?_ ?_|refine kv_if ?_ ?_|refine k_if ?_ ?_|refine IA ?_ ?_ ?_|refine L1 ?_ ?_|refine L2 ?_ ?_|refine L3 ?_ ?_ ?_ ?_|refine L4 ?_ ?_|refine L5 ?_ ?_ ?_ ?_ ?_|refine L6 ?_ ?_ ?_ ?_ ?_|refine ia_of (d:=default) ?_ ?_|refine ap_of (rw_slv _ _ _) (by simp -implicitDefEqProofs only [m_get,Nat.reduceEqDiff,reduceIte,if_true,if_false]; first|done|exact rfl) ?_ ?_ ?_ ?_|refine ap_of (rw_slm _ _ _ _ _ _ (by simp -implicitDefEqProofs only [m_get,Nat.reduceEqDiff,reduceIte,if_true,if_false]; first|done|exact rfl) ?_) (by simp -implicitDefEqProofs only [m_get,Nat.reduceEqDiff,reduceIte,if_true,if_false]; first|done|exact rfl) ?_ ?_ ?_ ?_|refine AC.p0 (con76s ?_ ?_ ?_) ?_ (by simp -implicitDefEqProofs only [qU,pure_encZ]; done) ?_ ?_|refine AC.p0 (con176s ?_ ?_) ?_ (by simp -implicitDefEqProofs only [qU,pure_encZ]; done) ?_ ?_|refine AC.p0 (con78s ?_) ?_ (by simp -implicitDefEqProofs only [qU,pure_encZ]; done) ?_ ?_|refine AC.p0 (con70 ?_ ?_ ?_) ?_ (by simp -implicitDefEqProofs only [qU,pure_encZ]; done) ?_ ?_|refine AC.p0 (con162 ?_ ?_ ?_) ?_ (by simp -implicitDefEqProofs only [qU,pure_encZ]; done) ?_ ?_|refine AC.p0 (con161 ?_ ?_ ?_ ?_) ?_ (by simp -implicitDefEqProofs only [qU,pure_encZ]; done) ?_ ?_|refine AC.p0 (con160 ?_ ?_ ?_ ?_) ?_ (by simp -implicitDefEqProofs only [qU,pure_encZ]; done) ?_ ?_|refine AC.p0 (con174s ?_) ?_ (by simp -implicitDefEqProofs only [qU,pure_encZ]; done) ?_ ?_|refine AC.p0 (con90 ?_ ?_ ?_ ?_ ?_) ?_ ?_ ?_ ?_|refine AC.p0 (con91 ?_ ?_ ?_ ?_ ?_) ?_ ?_ ?_ ?_|refine AC.p0 (con92 ?_ ?_ ?_ ?_ ?_) ?_ ?_ ?_ ?_|refine AC.p0 (con95 ?_ ?_ ?_ ?_ ?_ ?_) ?_ ?_ ?_ ?_|refine AC.p0 (con94 ) ?_ (by simp -implicitDefEqProofs only [qU,pure_encZ]; done) ?_ ?_|refine AC.p0 (con52b ?_) ?_ (by simp -implicitDefEqProofs only [qU,pure_encZ]; done) ?_ ?_|refine AC.p0 (con77 ?_) ?_ (by simp -implicitDefEqProofs only [qU,pure_encZ]; done) ?_ ?_|refine AC.p0 (con69 ?_) ?_ (by simp -implicitDefEqProofs only [qU,pure_encZ]; done) ?_ ?_|refine AC.p0 (con81 ?_) ?_ (by simp -implicitDefEqProofs only [qU,pure_encZ]; done) ?_ ?_|refine P0 (con93) ?_ ?_ ?_|refine ACV.of (con93) ?_ ?_ ?_|refine ACK.of (con93) ?_ ?_|refine P0 (con84) ?_ ?_ ?_|refine ACV.of (con84) ?_ ?_ ?_|refine ACK.of (con84) ?_ ?_|refine P0 (con75) ?_ ?_ ?_|refine ACV.of (con75) ?_ ?_ ?_|refine ACK.of (con75) ?_ ?_|refine P0 (con82) ?_ ?_ ?_|refine ACV.of (con82) ?_ ?_ ?_|refine ACK.of (con82) ?_ ?_|simp -implicitDefEqProofs only [F28,qA,ld_0,ld_pv,st_0,doEqs,qU,List.reduceReplicate,Nat.reduceAdd,Nat.reduceSub,Nat.reduceLeDiff,Nat.reduceEqDiff,Nat.reduceMul,reduceIte,reduceCtorEq,qI,Nat.reduceLT,Nat.reduceBEq,up_s,Int.toNat_natCast,encT,qZ,splice_c,sp_word,sp_slots,sp_sends,sp_recvs,sp_full,sp_empty,sp_allZ,sp_allW,sp_allV,qC,encW,encV,Int.natCast_zero,ev_f,ev_e,hpc,hI,Int.reduceEq,Int.reduceNe, *]
  all_goals first
    | omega
    | exact Wk.refl _
    | exact ht
    | exact hr
    | (simp only [pures,AV.pure,pure_encZ,pure_encC7,Bool.and_true]; done)
    | exact ⟨h0,hlt⟩
    | exact h0
    | exact hlt
    | exact hT
    | exact h7
    | (rw [tell_len]; first | exact hT | exact hlt)
    | (simp only [withWord,withSlots,withSends,withRecvs,withFull,withEmpty,put1,List.length_set]; first | exact hT | exact h7 | exact hlt | omega)
    | exact hI
    | (unfold rAt put1; simp only [List.length_set]; exact hT)
    | (have h8:(vNotify s.full).2.2=true:=(by assumption:(vNotify ⟨s.full.ep,s.full.ln⟩).2.2=true)
       refine Wk.of_eq ?_; unfold gNotify; simp only []; rw [if_pos h8,← wake_at hRE (by decide) (by decide)]; first | done | rfl)
    | (have h8:(vNotify s.full).2.2=false:=(by assumption:(vNotify ⟨s.full.ep,s.full.ln⟩).2.2=false)
       refine Wk.of_eq ?_; unfold gNotify; simp only []; rw [if_neg (by simp [h8])]; first | done | rfl)
    | trace_state

theorem con28_7 {s:State} {id:Int} (hb:Bd s 1000000) (hI:gIs s id=true) (hpc:(s.threads.getD id.toNat default).pc=7):Con Tryz.prog 28 [.agg (encZ s),.int .i64 id] (.agg (encZ (gAgain s id)),[],[]):=by
  have hb':=hb
  unfold Bd at hb'
  have hT:s.threads.length≤100000000:=by omega
  have h7:s.log.length≤100000000:=by omega
  have hI':=hI
  simp only [gIs,fabIs,Bool.and_eq_true,decide_eq_true_eq] at hI'
  obtain ⟨⟨⟨⟨hchk,h0⟩,hlt⟩,hr⟩,hside⟩:=hI'
  have ht:=tries_of hchk h0 hlt
  clear hchk hside
  refine mcb_of_vc mix x28 (by simp [F28]) fun hw _=>?_
  clear hw
  repeat' with_reducible first|refine gTn_of (fun h=>?_) (fun h=>?_)|refine gT_of (fun h=>?_) (fun h=>?_)|refine caseTn_of (fun h=>?_) (fun h=>?_)|refine caseT_of (fun h=>?_) (fun h=>?_)|refine FN ?_ ?_ ?_ ?_ rfl ?_|refine kv_ifn ?_ ?_|refine kv_if ?_ ?_|refine k_if ?_ ?_|refine IA ?_ ?_ ?_|refine L1 ?_ ?_|refine L2 ?_ ?_|refine L3 ?_ ?_ ?_ ?_|refine L4 ?_ ?_|refine L5 ?_ ?_ ?_ ?_ ?_|refine L6 ?_ ?_ ?_ ?_ ?_|refine ia_of (d:=default) ?_ ?_|refine ap_of (rw_slv _ _ _) (by simp -implicitDefEqProofs only [m_get,Nat.reduceEqDiff,reduceIte,if_true,if_false]; first|done|exact rfl) ?_ ?_ ?_ ?_|refine ap_of (rw_slm _ _ _ _ _ _ (by simp -implicitDefEqProofs only [m_get,Nat.reduceEqDiff,reduceIte,if_true,if_false]; first|done|exact rfl) ?_) (by simp -implicitDefEqProofs only [m_get,Nat.reduceEqDiff,reduceIte,if_true,if_false]; first|done|exact rfl) ?_ ?_ ?_ ?_|refine AC.p0 (con76s ?_ ?_ ?_) ?_ (by simp -implicitDefEqProofs only [qU,pure_encZ]; done) ?_ ?_|refine AC.p0 (con176s ?_ ?_) ?_ (by simp -implicitDefEqProofs only [qU,pure_encZ]; done) ?_ ?_|refine AC.p0 (con78s ?_) ?_ (by simp -implicitDefEqProofs only [qU,pure_encZ]; done) ?_ ?_|refine AC.p0 (con70 ?_ ?_ ?_) ?_ (by simp -implicitDefEqProofs only [qU,pure_encZ]; done) ?_ ?_|refine AC.p0 (con162 ?_ ?_ ?_) ?_ (by simp -implicitDefEqProofs only [qU,pure_encZ]; done) ?_ ?_|refine AC.p0 (con161 ?_ ?_ ?_ ?_) ?_ (by simp -implicitDefEqProofs only [qU,pure_encZ]; done) ?_ ?_|refine AC.p0 (con160 ?_ ?_ ?_ ?_) ?_ (by simp -implicitDefEqProofs only [qU,pure_encZ]; done) ?_ ?_|refine AC.p0 (con174s ?_) ?_ (by simp -implicitDefEqProofs only [qU,pure_encZ]; done) ?_ ?_|refine AC.p0 (con90 ?_ ?_ ?_ ?_ ?_) ?_ ?_ ?_ ?_|refine AC.p0 (con91 ?_ ?_ ?_ ?_ ?_) ?_ ?_ ?_ ?_|refine AC.p0 (con92 ?_ ?_ ?_ ?_ ?_) ?_ ?_ ?_ ?_|refine AC.p0 (con95 ?_ ?_ ?_ ?_ ?_ ?_) ?_ ?_ ?_ ?_|refine AC.p0 (con94 ) ?_ (by simp -implicitDefEqProofs only [qU,pure_encZ]; done) ?_ ?_|refine AC.p0 (con52b ?_) ?_ (by simp -implicitDefEqProofs only [qU,pure_encZ]; done) ?_ ?_|refine AC.p0 (con77 ?_) ?_ (by simp -implicitDefEqProofs only [qU,pure_encZ]; done) ?_ ?_|refine AC.p0 (con69 ?_) ?_ (by simp -implicitDefEqProofs only [qU,pure_encZ]; done) ?_ ?_|refine AC.p0 (con81 ?_) ?_ (by simp -implicitDefEqProofs only [qU,pure_encZ]; done) ?_ ?_|refine P0 (con93) ?_ ?_ ?_|refine ACV.of (con93) ?_ ?_ ?_|refine ACK.of (con93) ?_ ?_|refine P0 (con84) ?_ ?_ ?_|refine ACV.of (con84) ?_ ?_ ?_|refine ACK.of (con84) ?_ ?_|refine P0 (con75) ?_ ?_ ?_|refine ACV.of (con75) ?_ ?_ ?_|refine ACK.of (con75) ?_ ?_|refine P0 (con82) ?_ ?_ ?_|refine ACV.of (con82) ?_ ?_ ?_|refine ACK.of (con82) ?_ ?_|simp -implicitDefEqProofs only [F28,qA,ld_0,ld_pv,st_0,doEqs,qU,List.reduceReplicate,Nat.reduceAdd,Nat.reduceSub,Nat.reduceLeDiff,Nat.reduceEqDiff,Nat.reduceMul,reduceIte,reduceCtorEq,qI,Nat.reduceLT,Nat.reduceBEq,up_s,Int.toNat_natCast,encT,qZ,splice_c,sp_word,sp_slots,sp_sends,sp_recvs,sp_full,sp_empty,sp_allZ,sp_allW,sp_allV,qC,encW,encV,Int.natCast_zero,ev_f,ev_e,hpc,hI,Int.reduceEq,Int.reduceNe, *]
  all_goals first
    | omega
    | exact Wk.refl _
    | exact ht
    | exact hr
    | (simp only [pures,AV.pure,pure_encZ,pure_encC7,Bool.and_true]; done)
    | exact ⟨h0,hlt⟩
    | exact h0
    | exact hlt
    | exact hT
    | exact h7
    | (rw [tell_len]; first | exact hT | exact hlt)
    | (simp only [withWord,withSlots,withSends,withRecvs,withFull,withEmpty,put1,List.length_set]; first | exact hT | exact h7 | exact hlt | omega)
    | exact hI
    | (have h8:(me s id).late=false:=(by assumption:(s.threads.getD id.toNat default).late=false)
       refine Wk.of_eq ?_; unfold gAgain; rw [if_pos ⟨(show (wSees s.word s.slots.length).2=4 from of_decide_eq_true (by assumption)),by simp [h8]⟩]; first | done | rfl)
    | (have h8:(me s id).late=true:=(by assumption:(s.threads.getD id.toNat default).late=true)
       refine Wk.of_eq ?_; unfold gAgain; rw [if_neg (fun h9=>h9.2 h8)]; first | done | rfl)
    | (refine Wk.of_eq ?_; unfold gAgain; rw [if_neg (fun h9=>(show ¬ (wSees s.word s.slots.length).2=4 from of_decide_eq_false (by assumption)) h9.1)]; first | done | rfl)
    | trace_state

theorem con28_8 {s:State} {id:Int} (hb:Bd s 1000000) (hI:gIs s id=true) (hpc:(s.threads.getD id.toNat default).pc=8):Con Tryz.prog 28 [.agg (encZ s),.int .i64 id] (.agg (encZ (gCommit s id)),[],[]):=by
  have hb':=hb
  unfold Bd at hb'
  have hT:s.threads.length≤100000000:=by omega
  have h7:s.log.length≤100000000:=by omega
  have hI':=hI
  simp only [gIs,fabIs,Bool.and_eq_true,decide_eq_true_eq] at hI'
  obtain ⟨⟨⟨⟨hchk,h0⟩,hlt⟩,hr⟩,hside⟩:=hI'
  have ht:=tries_of hchk h0 hlt
  clear hchk hside
  refine mcb_of_vc mix x28 (by simp [F28]) fun hw _=>?_
  clear hw
  repeat' with_reducible first|refine gTn_of (fun h=>?_) (fun h=>?_)|refine gT_of (fun h=>?_) (fun h=>?_)|refine caseTn_of (fun h=>?_) (fun h=>?_)|refine caseT_of (fun h=>?_) (fun h=>?_)|refine FN ?_ ?_ ?_ ?_ rfl ?_|refine kv_ifn ?_ ?_|refine kv_if ?_ ?_|refine k_if ?_ ?_|refine IA ?_ ?_ ?_|refine L1 ?_ ?_|refine L2 ?_ ?_|refine L3 ?_ ?_ ?_ ?_|refine L4 ?_ ?_|refine L5 ?_ ?_ ?_ ?_ ?_|refine L6 ?_ ?_ ?_ ?_ ?_|refine ia_of (d:=default) ?_ ?_|refine ap_of (rw_slv _ _ _) (by simp -implicitDefEqProofs only [m_get,Nat.reduceEqDiff,reduceIte,if_true,if_false]; first|done|exact rfl) ?_ ?_ ?_ ?_|refine ap_of (rw_slm _ _ _ _ _ _ (by simp -implicitDefEqProofs only [m_get,Nat.reduceEqDiff,reduceIte,if_true,if_false]; first|done|exact rfl) ?_) (by simp -implicitDefEqProofs only [m_get,Nat.reduceEqDiff,reduceIte,if_true,if_false]; first|done|exact rfl) ?_ ?_ ?_ ?_|refine AC.p0 (con76s ?_ ?_ ?_) ?_ (by simp -implicitDefEqProofs only [qU,pure_encZ]; done) ?_ ?_|refine AC.p0 (con176s ?_ ?_) ?_ (by simp -implicitDefEqProofs only [qU,pure_encZ]; done) ?_ ?_|refine AC.p0 (con78s ?_) ?_ (by simp -implicitDefEqProofs only [qU,pure_encZ]; done) ?_ ?_|refine AC.p0 (con70 ?_ ?_ ?_) ?_ (by simp -implicitDefEqProofs only [qU,pure_encZ]; done) ?_ ?_|refine AC.p0 (con162 ?_ ?_ ?_) ?_ (by simp -implicitDefEqProofs only [qU,pure_encZ]; done) ?_ ?_|refine AC.p0 (con161 ?_ ?_ ?_ ?_) ?_ (by simp -implicitDefEqProofs only [qU,pure_encZ]; done) ?_ ?_|refine AC.p0 (con160 ?_ ?_ ?_ ?_) ?_ (by simp -implicitDefEqProofs only [qU,pure_encZ]; done) ?_ ?_|refine AC.p0 (con174s ?_) ?_ (by simp -implicitDefEqProofs only [qU,pure_encZ]; done) ?_ ?_|refine AC.p0 (con90 ?_ ?_ ?_ ?_ ?_) ?_ ?_ ?_ ?_|refine AC.p0 (con91 ?_ ?_ ?_ ?_ ?_) ?_ ?_ ?_ ?_|refine AC.p0 (con92 ?_ ?_ ?_ ?_ ?_) ?_ ?_ ?_ ?_|refine AC.p0 (con95 ?_ ?_ ?_ ?_ ?_ ?_) ?_ ?_ ?_ ?_|refine AC.p0 (con94 ) ?_ (by simp -implicitDefEqProofs only [qU,pure_encZ]; done) ?_ ?_|refine AC.p0 (con52b ?_) ?_ (by simp -implicitDefEqProofs only [qU,pure_encZ]; done) ?_ ?_|refine AC.p0 (con77 ?_) ?_ (by simp -implicitDefEqProofs only [qU,pure_encZ]; done) ?_ ?_|refine AC.p0 (con69 ?_) ?_ (by simp -implicitDefEqProofs only [qU,pure_encZ]; done) ?_ ?_|refine AC.p0 (con81 ?_) ?_ (by simp -implicitDefEqProofs only [qU,pure_encZ]; done) ?_ ?_|refine P0 (con93) ?_ ?_ ?_|refine ACV.of (con93) ?_ ?_ ?_|refine ACK.of (con93) ?_ ?_|refine P0 (con84) ?_ ?_ ?_|refine ACV.of (con84) ?_ ?_ ?_|refine ACK.of (con84) ?_ ?_|refine P0 (con75) ?_ ?_ ?_|refine ACV.of (con75) ?_ ?_ ?_|refine ACK.of (con75) ?_ ?_|refine P0 (con82) ?_ ?_ ?_|refine ACV.of (con82) ?_ ?_ ?_|refine ACK.of (con82) ?_ ?_|simp -implicitDefEqProofs only [F28,qA,ld_0,ld_pv,st_0,doEqs,qU,List.reduceReplicate,Nat.reduceAdd,Nat.reduceSub,Nat.reduceLeDiff,Nat.reduceEqDiff,Nat.reduceMul,reduceIte,reduceCtorEq,qI,Nat.reduceLT,Nat.reduceBEq,up_s,Int.toNat_natCast,encT,qZ,splice_c,sp_word,sp_slots,sp_sends,sp_recvs,sp_full,sp_empty,sp_allZ,sp_allW,sp_allV,qC,encW,encV,Int.natCast_zero,ev_f,ev_e,hpc,hI,Int.reduceEq,Int.reduceNe, *]
  all_goals first
    | omega
    | exact Wk.refl _
    | exact ht
    | exact hr
    | (simp only [pures,AV.pure,pure_encZ,pure_encC7,Bool.and_true]; done)
    | exact ⟨h0,hlt⟩
    | exact h0
    | exact hlt
    | exact hT
    | exact h7
    | (rw [tell_len]; first | exact hT | exact hlt)
    | (simp only [withWord,withSlots,withSends,withRecvs,withFull,withEmpty,put1,List.length_set]; first | exact hT | exact h7 | exact hlt | omega)
    | exact hI
    | trace_state

theorem con28_9 {s:State} {id:Int} (hb:Bd s 1000000) (hI:gIs s id=true) (hpc:(s.threads.getD id.toNat default).pc=9):Con Tryz.prog 28 [.agg (encZ s),.int .i64 id] (.agg (encZ (gLeave s id)),[],[]):=by
  have hb':=hb
  unfold Bd at hb'
  have hT:s.threads.length≤100000000:=by omega
  have h7:s.log.length≤100000000:=by omega
  have hI':=hI
  simp only [gIs,fabIs,Bool.and_eq_true,decide_eq_true_eq] at hI'
  obtain ⟨⟨⟨⟨hchk,h0⟩,hlt⟩,hr⟩,hside⟩:=hI'
  have ht:=tries_of hchk h0 hlt
  clear hchk hside
  refine mcb_of_vc mix x28 (by simp [F28]) fun hw _=>?_
  clear hw
  repeat' with_reducible first|refine gTn_of (fun h=>?_) (fun h=>?_)|refine gT_of (fun h=>?_) (fun h=>?_)|refine caseTn_of (fun h=>?_) (fun h=>?_)|refine caseT_of (fun h=>?_) (fun h=>?_)|refine FN ?_ ?_ ?_ ?_ rfl ?_|refine kv_ifn ?_ ?_|refine kv_if ?_ ?_|refine k_if ?_ ?_|refine IA ?_ ?_ ?_|refine L1 ?_ ?_|refine L2 ?_ ?_|refine L3 ?_ ?_ ?_ ?_|refine L4 ?_ ?_|refine L5 ?_ ?_ ?_ ?_ ?_|refine L6 ?_ ?_ ?_ ?_ ?_|refine ia_of (d:=default) ?_ ?_|refine ap_of (rw_slv _ _ _) (by simp -implicitDefEqProofs only [m_get,Nat.reduceEqDiff,reduceIte,if_true,if_false]; first|done|exact rfl) ?_ ?_ ?_ ?_|refine ap_of (rw_slm _ _ _ _ _ _ (by simp -implicitDefEqProofs only [m_get,Nat.reduceEqDiff,reduceIte,if_true,if_false]; first|done|exact rfl) ?_) (by simp -implicitDefEqProofs only [m_get,Nat.reduceEqDiff,reduceIte,if_true,if_false]; first|done|exact rfl) ?_ ?_ ?_ ?_|refine AC.p0 (con76s ?_ ?_ ?_) ?_ (by simp -implicitDefEqProofs only [qU,pure_encZ]; done) ?_ ?_|refine AC.p0 (con176s ?_ ?_) ?_ (by simp -implicitDefEqProofs only [qU,pure_encZ]; done) ?_ ?_|refine AC.p0 (con78s ?_) ?_ (by simp -implicitDefEqProofs only [qU,pure_encZ]; done) ?_ ?_|refine AC.p0 (con70 ?_ ?_ ?_) ?_ (by simp -implicitDefEqProofs only [qU,pure_encZ]; done) ?_ ?_|refine AC.p0 (con162 ?_ ?_ ?_) ?_ (by simp -implicitDefEqProofs only [qU,pure_encZ]; done) ?_ ?_|refine AC.p0 (con161 ?_ ?_ ?_ ?_) ?_ (by simp -implicitDefEqProofs only [qU,pure_encZ]; done) ?_ ?_|refine AC.p0 (con160 ?_ ?_ ?_ ?_) ?_ (by simp -implicitDefEqProofs only [qU,pure_encZ]; done) ?_ ?_|refine AC.p0 (con174s ?_) ?_ (by simp -implicitDefEqProofs only [qU,pure_encZ]; done) ?_ ?_|refine AC.p0 (con90 ?_ ?_ ?_ ?_ ?_) ?_ ?_ ?_ ?_|refine AC.p0 (con91 ?_ ?_ ?_ ?_ ?_) ?_ ?_ ?_ ?_|refine AC.p0 (con92 ?_ ?_ ?_ ?_ ?_) ?_ ?_ ?_ ?_|refine AC.p0 (con95 ?_ ?_ ?_ ?_ ?_ ?_) ?_ ?_ ?_ ?_|refine AC.p0 (con94 ) ?_ (by simp -implicitDefEqProofs only [qU,pure_encZ]; done) ?_ ?_|refine AC.p0 (con52b ?_) ?_ (by simp -implicitDefEqProofs only [qU,pure_encZ]; done) ?_ ?_|refine AC.p0 (con77 ?_) ?_ (by simp -implicitDefEqProofs only [qU,pure_encZ]; done) ?_ ?_|refine AC.p0 (con69 ?_) ?_ (by simp -implicitDefEqProofs only [qU,pure_encZ]; done) ?_ ?_|refine AC.p0 (con81 ?_) ?_ (by simp -implicitDefEqProofs only [qU,pure_encZ]; done) ?_ ?_|refine P0 (con93) ?_ ?_ ?_|refine ACV.of (con93) ?_ ?_ ?_|refine ACK.of (con93) ?_ ?_|refine P0 (con84) ?_ ?_ ?_|refine ACV.of (con84) ?_ ?_ ?_|refine ACK.of (con84) ?_ ?_|refine P0 (con75) ?_ ?_ ?_|refine ACV.of (con75) ?_ ?_ ?_|refine ACK.of (con75) ?_ ?_|refine P0 (con82) ?_ ?_ ?_|refine ACV.of (con82) ?_ ?_ ?_|refine ACK.of (con82) ?_ ?_|simp -implicitDefEqProofs only [F28,qA,ld_0,ld_pv,st_0,doEqs,qU,List.reduceReplicate,Nat.reduceAdd,Nat.reduceSub,Nat.reduceLeDiff,Nat.reduceEqDiff,Nat.reduceMul,reduceIte,reduceCtorEq,qI,Nat.reduceLT,Nat.reduceBEq,up_s,Int.toNat_natCast,encT,qZ,splice_c,sp_word,sp_slots,sp_sends,sp_recvs,sp_full,sp_empty,sp_allZ,sp_allW,sp_allV,qC,encW,encV,Int.natCast_zero,ev_f,ev_e,hpc,hI,Int.reduceEq,Int.reduceNe, *]
  all_goals first
    | omega
    | exact Wk.refl _
    | exact ht
    | exact hr
    | (simp only [pures,AV.pure,pure_encZ,pure_encC7,Bool.and_true]; done)
    | exact ⟨h0,hlt⟩
    | exact h0
    | exact hlt
    | exact hT
    | exact h7
    | (rw [tell_len]; first | exact hT | exact hlt)
    | (simp only [withWord,withSlots,withSends,withRecvs,withFull,withEmpty,put1,List.length_set]; first | exact hT | exact h7 | exact hlt | omega)
    | exact hI
    | (refine Wk.of_eq ?_
       show AV.agg (encZ (put1 (withRecvs s (lLeave s.recvs id).1) id (tDone ⟨(s.threads.getD id.toNat default).st,(s.threads.getD id.toNat default).kind,(s.threads.getD id.toNat default).val,(s.threads.getD id.toNat default).untl,9,(s.threads.getD id.toNat default).reg,(s.threads.getD id.toNat default).seen,(s.threads.getD id.toNat default).tries,(s.threads.getD id.toNat default).late,(s.threads.getD id.toNat default).res,(s.threads.getD id.toNat default).got⟩).1))=_
       rw [thr_pc hpc]
       rfl)
    | trace_state

theorem con28_10 {s:State} {id:Int} (hb:Bd s 1000000) (hI:gIs s id=true) (hpc:(s.threads.getD id.toNat default).pc=10):Con Tryz.prog 28 [.agg (encZ s),.int .i64 id] (.agg (encZ (gLeave s id)),[],[]):=by
  have hb':=hb
  unfold Bd at hb'
  have hT:s.threads.length≤100000000:=by omega
  have h7:s.log.length≤100000000:=by omega
  have hI':=hI
  simp only [gIs,fabIs,Bool.and_eq_true,decide_eq_true_eq] at hI'
  obtain ⟨⟨⟨⟨hchk,h0⟩,hlt⟩,hr⟩,hside⟩:=hI'
  have ht:=tries_of hchk h0 hlt
  clear hchk hside
  refine mcb_of_vc mix x28 (by simp [F28]) fun hw _=>?_
  clear hw
  repeat' with_reducible first|refine gTn_of (fun h=>?_) (fun h=>?_)|refine gT_of (fun h=>?_) (fun h=>?_)|refine caseTn_of (fun h=>?_) (fun h=>?_)|refine caseT_of (fun h=>?_) (fun h=>?_)|refine FN ?_ ?_ ?_ ?_ rfl ?_|refine kv_ifn ?_ ?_|refine kv_if ?_ ?_|refine k_if ?_ ?_|refine IA ?_ ?_ ?_|refine L1 ?_ ?_|refine L2 ?_ ?_|refine L3 ?_ ?_ ?_ ?_|refine L4 ?_ ?_|refine L5 ?_ ?_ ?_ ?_ ?_|refine L6 ?_ ?_ ?_ ?_ ?_|refine ia_of (d:=default) ?_ ?_|refine ap_of (rw_slv _ _ _) (by simp -implicitDefEqProofs only [m_get,Nat.reduceEqDiff,reduceIte,if_true,if_false]; first|done|exact rfl) ?_ ?_ ?_ ?_|refine ap_of (rw_slm _ _ _ _ _ _ (by simp -implicitDefEqProofs only [m_get,Nat.reduceEqDiff,reduceIte,if_true,if_false]; first|done|exact rfl) ?_) (by simp -implicitDefEqProofs only [m_get,Nat.reduceEqDiff,reduceIte,if_true,if_false]; first|done|exact rfl) ?_ ?_ ?_ ?_|refine AC.p0 (con76s ?_ ?_ ?_) ?_ (by simp -implicitDefEqProofs only [qU,pure_encZ]; done) ?_ ?_|refine AC.p0 (con176s ?_ ?_) ?_ (by simp -implicitDefEqProofs only [qU,pure_encZ]; done) ?_ ?_|refine AC.p0 (con78s ?_) ?_ (by simp -implicitDefEqProofs only [qU,pure_encZ]; done) ?_ ?_|refine AC.p0 (con70 ?_ ?_ ?_) ?_ (by simp -implicitDefEqProofs only [qU,pure_encZ]; done) ?_ ?_|refine AC.p0 (con162 ?_ ?_ ?_) ?_ (by simp -implicitDefEqProofs only [qU,pure_encZ]; done) ?_ ?_|refine AC.p0 (con161 ?_ ?_ ?_ ?_) ?_ (by simp -implicitDefEqProofs only [qU,pure_encZ]; done) ?_ ?_|refine AC.p0 (con160 ?_ ?_ ?_ ?_) ?_ (by simp -implicitDefEqProofs only [qU,pure_encZ]; done) ?_ ?_|refine AC.p0 (con174s ?_) ?_ (by simp -implicitDefEqProofs only [qU,pure_encZ]; done) ?_ ?_|refine AC.p0 (con90 ?_ ?_ ?_ ?_ ?_) ?_ ?_ ?_ ?_|refine AC.p0 (con91 ?_ ?_ ?_ ?_ ?_) ?_ ?_ ?_ ?_|refine AC.p0 (con92 ?_ ?_ ?_ ?_ ?_) ?_ ?_ ?_ ?_|refine AC.p0 (con95 ?_ ?_ ?_ ?_ ?_ ?_) ?_ ?_ ?_ ?_|refine AC.p0 (con94 ) ?_ (by simp -implicitDefEqProofs only [qU,pure_encZ]; done) ?_ ?_|refine AC.p0 (con52b ?_) ?_ (by simp -implicitDefEqProofs only [qU,pure_encZ]; done) ?_ ?_|refine AC.p0 (con77 ?_) ?_ (by simp -implicitDefEqProofs only [qU,pure_encZ]; done) ?_ ?_|refine AC.p0 (con69 ?_) ?_ (by simp -implicitDefEqProofs only [qU,pure_encZ]; done) ?_ ?_|refine AC.p0 (con81 ?_) ?_ (by simp -implicitDefEqProofs only [qU,pure_encZ]; done) ?_ ?_|refine P0 (con93) ?_ ?_ ?_|refine ACV.of (con93) ?_ ?_ ?_|refine ACK.of (con93) ?_ ?_|refine P0 (con84) ?_ ?_ ?_|refine ACV.of (con84) ?_ ?_ ?_|refine ACK.of (con84) ?_ ?_|refine P0 (con75) ?_ ?_ ?_|refine ACV.of (con75) ?_ ?_ ?_|refine ACK.of (con75) ?_ ?_|refine P0 (con82) ?_ ?_ ?_|refine ACV.of (con82) ?_ ?_ ?_|refine ACK.of (con82) ?_ ?_|simp -implicitDefEqProofs only [F28,qA,ld_0,ld_pv,st_0,doEqs,qU,List.reduceReplicate,Nat.reduceAdd,Nat.reduceSub,Nat.reduceLeDiff,Nat.reduceEqDiff,Nat.reduceMul,reduceIte,reduceCtorEq,qI,Nat.reduceLT,Nat.reduceBEq,up_s,Int.toNat_natCast,encT,qZ,splice_c,sp_word,sp_slots,sp_sends,sp_recvs,sp_full,sp_empty,sp_allZ,sp_allW,sp_allV,qC,encW,encV,Int.natCast_zero,ev_f,ev_e,hpc,hI,Int.reduceEq,Int.reduceNe, *]
  all_goals first
    | omega
    | exact Wk.refl _
    | exact ht
    | exact hr
    | (simp only [pures,AV.pure,pure_encZ,pure_encC7,Bool.and_true]; done)
    | exact ⟨h0,hlt⟩
    | exact h0
    | exact hlt
    | exact hT
    | exact h7
    | (rw [tell_len]; first | exact hT | exact hlt)
    | (simp only [withWord,withSlots,withSends,withRecvs,withFull,withEmpty,put1,List.length_set]; first | exact hT | exact h7 | exact hlt | omega)
    | exact hI
    | (refine Wk.of_eq ?_
       show AV.agg (encZ (put1 (withRecvs s (lLeave s.recvs id).1) id (tDone ⟨(s.threads.getD id.toNat default).st,(s.threads.getD id.toNat default).kind,(s.threads.getD id.toNat default).val,(s.threads.getD id.toNat default).untl,10,(s.threads.getD id.toNat default).reg,(s.threads.getD id.toNat default).seen,(s.threads.getD id.toNat default).tries,(s.threads.getD id.toNat default).late,(s.threads.getD id.toNat default).res,(s.threads.getD id.toNat default).got⟩).1))=_
       rw [thr_pc hpc]
       rfl)
    | trace_state

theorem con28_11 {s:State} {id:Int} (hb:Bd s 1000000) (hI:gIs s id=true) (hpc:(s.threads.getD id.toNat default).pc=11):Con Tryz.prog 28 [.agg (encZ s),.int .i64 id] (.agg (encZ (gLeave s id)),[],[]):=by
  have hb':=hb
  unfold Bd at hb'
  have hT:s.threads.length≤100000000:=by omega
  have h7:s.log.length≤100000000:=by omega
  have hI':=hI
  simp only [gIs,fabIs,Bool.and_eq_true,decide_eq_true_eq] at hI'
  obtain ⟨⟨⟨⟨hchk,h0⟩,hlt⟩,hr⟩,hside⟩:=hI'
  have ht:=tries_of hchk h0 hlt
  clear hchk hside
  refine mcb_of_vc mix x28 (by simp [F28]) fun hw _=>?_
  clear hw
  repeat' with_reducible first|refine gTn_of (fun h=>?_) (fun h=>?_)|refine gT_of (fun h=>?_) (fun h=>?_)|refine caseTn_of (fun h=>?_) (fun h=>?_)|refine caseT_of (fun h=>?_) (fun h=>?_)|refine FN ?_ ?_ ?_ ?_ rfl ?_|refine kv_ifn ?_ ?_|refine kv_if ?_ ?_|refine k_if ?_ ?_|refine IA ?_ ?_ ?_|refine L1 ?_ ?_|refine L2 ?_ ?_|refine L3 ?_ ?_ ?_ ?_|refine L4 ?_ ?_|refine L5 ?_ ?_ ?_ ?_ ?_|refine L6 ?_ ?_ ?_ ?_ ?_|refine ia_of (d:=default) ?_ ?_|refine ap_of (rw_slv _ _ _) (by simp -implicitDefEqProofs only [m_get,Nat.reduceEqDiff,reduceIte,if_true,if_false]; first|done|exact rfl) ?_ ?_ ?_ ?_|refine ap_of (rw_slm _ _ _ _ _ _ (by simp -implicitDefEqProofs only [m_get,Nat.reduceEqDiff,reduceIte,if_true,if_false]; first|done|exact rfl) ?_) (by simp -implicitDefEqProofs only [m_get,Nat.reduceEqDiff,reduceIte,if_true,if_false]; first|done|exact rfl) ?_ ?_ ?_ ?_|refine AC.p0 (con76s ?_ ?_ ?_) ?_ (by simp -implicitDefEqProofs only [qU,pure_encZ]; done) ?_ ?_|refine AC.p0 (con176s ?_ ?_) ?_ (by simp -implicitDefEqProofs only [qU,pure_encZ]; done) ?_ ?_|refine AC.p0 (con78s ?_) ?_ (by simp -implicitDefEqProofs only [qU,pure_encZ]; done) ?_ ?_|refine AC.p0 (con70 ?_ ?_ ?_) ?_ (by simp -implicitDefEqProofs only [qU,pure_encZ]; done) ?_ ?_|refine AC.p0 (con162 ?_ ?_ ?_) ?_ (by simp -implicitDefEqProofs only [qU,pure_encZ]; done) ?_ ?_|refine AC.p0 (con161 ?_ ?_ ?_ ?_) ?_ (by simp -implicitDefEqProofs only [qU,pure_encZ]; done) ?_ ?_|refine AC.p0 (con160 ?_ ?_ ?_ ?_) ?_ (by simp -implicitDefEqProofs only [qU,pure_encZ]; done) ?_ ?_|refine AC.p0 (con174s ?_) ?_ (by simp -implicitDefEqProofs only [qU,pure_encZ]; done) ?_ ?_|refine AC.p0 (con90 ?_ ?_ ?_ ?_ ?_) ?_ ?_ ?_ ?_|refine AC.p0 (con91 ?_ ?_ ?_ ?_ ?_) ?_ ?_ ?_ ?_|refine AC.p0 (con92 ?_ ?_ ?_ ?_ ?_) ?_ ?_ ?_ ?_|refine AC.p0 (con95 ?_ ?_ ?_ ?_ ?_ ?_) ?_ ?_ ?_ ?_|refine AC.p0 (con94 ) ?_ (by simp -implicitDefEqProofs only [qU,pure_encZ]; done) ?_ ?_|refine AC.p0 (con52b ?_) ?_ (by simp -implicitDefEqProofs only [qU,pure_encZ]; done) ?_ ?_|refine AC.p0 (con77 ?_) ?_ (by simp -implicitDefEqProofs only [qU,pure_encZ]; done) ?_ ?_|refine AC.p0 (con69 ?_) ?_ (by simp -implicitDefEqProofs only [qU,pure_encZ]; done) ?_ ?_|refine AC.p0 (con81 ?_) ?_ (by simp -implicitDefEqProofs only [qU,pure_encZ]; done) ?_ ?_|refine P0 (con93) ?_ ?_ ?_|refine ACV.of (con93) ?_ ?_ ?_|refine ACK.of (con93) ?_ ?_|refine P0 (con84) ?_ ?_ ?_|refine ACV.of (con84) ?_ ?_ ?_|refine ACK.of (con84) ?_ ?_|refine P0 (con75) ?_ ?_ ?_|refine ACV.of (con75) ?_ ?_ ?_|refine ACK.of (con75) ?_ ?_|refine P0 (con82) ?_ ?_ ?_|refine ACV.of (con82) ?_ ?_ ?_|refine ACK.of (con82) ?_ ?_|simp -implicitDefEqProofs only [F28,qA,ld_0,ld_pv,st_0,doEqs,qU,List.reduceReplicate,Nat.reduceAdd,Nat.reduceSub,Nat.reduceLeDiff,Nat.reduceEqDiff,Nat.reduceMul,reduceIte,reduceCtorEq,qI,Nat.reduceLT,Nat.reduceBEq,up_s,Int.toNat_natCast,encT,qZ,splice_c,sp_word,sp_slots,sp_sends,sp_recvs,sp_full,sp_empty,sp_allZ,sp_allW,sp_allV,qC,encW,encV,Int.natCast_zero,ev_f,ev_e,hpc,hI,Int.reduceEq,Int.reduceNe, *]
  all_goals first
    | omega
    | exact Wk.refl _
    | exact ht
    | exact hr
    | (simp only [pures,AV.pure,pure_encZ,pure_encC7,Bool.and_true]; done)
    | exact ⟨h0,hlt⟩
    | exact h0
    | exact hlt
    | exact hT
    | exact h7
    | (rw [tell_len]; first | exact hT | exact hlt)
    | (simp only [withWord,withSlots,withSends,withRecvs,withFull,withEmpty,put1,List.length_set]; first | exact hT | exact h7 | exact hlt | omega)
    | exact hI
    | (refine Wk.of_eq ?_
       show AV.agg (encZ (put1 (withRecvs s (lLeave s.recvs id).1) id (tDone ⟨(s.threads.getD id.toNat default).st,(s.threads.getD id.toNat default).kind,(s.threads.getD id.toNat default).val,(s.threads.getD id.toNat default).untl,11,(s.threads.getD id.toNat default).reg,(s.threads.getD id.toNat default).seen,(s.threads.getD id.toNat default).tries,(s.threads.getD id.toNat default).late,(s.threads.getD id.toNat default).res,(s.threads.getD id.toNat default).got⟩).1))=_
       rw [thr_pc hpc]
       rfl)
    | trace_state

theorem con28 {s:State} {id:Int} (hb:Bd s 1000000):Con Tryz.prog 28 [.agg (encZ s),.int .i64 id] (.agg (encZ (gStep s id)),[],[]):=by
  have hb':=hb
  unfold Bd at hb'
  by_cases hI:gIs s id=true
  · have hp:=pc_of (s:=s) (id:=id) (gIs_fab hI)
    simp only [me] at hp
    have hs:gStep s id=(match (s.threads.getD id.toNat default).pc.toNat with | 0=>gEnter s id | 1=>gFirst s id | 2=>gLook s id | 3=>gTake s id | 4=>gRead s id | 5=>gPrepare s id | 6=>gNotify s id | 7=>gAgain s id | 8=>gCommit s id | _=>gLeave s id):=by
      unfold gStep
      rw [if_neg (by simp [hI])]
      rfl
    rw [hs]
    have hc:(s.threads.getD id.toNat default).pc=0∨(s.threads.getD id.toNat default).pc=1∨(s.threads.getD id.toNat default).pc=2∨(s.threads.getD id.toNat default).pc=3∨(s.threads.getD id.toNat default).pc=4∨(s.threads.getD id.toNat default).pc=5∨(s.threads.getD id.toNat default).pc=6∨(s.threads.getD id.toNat default).pc=7∨(s.threads.getD id.toNat default).pc=8∨(s.threads.getD id.toNat default).pc=9∨(s.threads.getD id.toNat default).pc=10∨(s.threads.getD id.toNat default).pc=11:=by omega
    rcases hc with hc | hc | hc | hc | hc | hc | hc | hc | hc | hc | hc | hc
    · rw [hc]; exact con28_0 hb hI hc
    · rw [hc]; exact con28_1 hb hI hc
    · rw [hc]; exact con28_2 hb hI hc
    · rw [hc]; exact con28_3 hb hI hc
    · rw [hc]; exact con28_4 hb hI hc
    · rw [hc]; exact con28_5 hb hI hc
    · rw [hc]; exact con28_6 hb hI hc
    · rw [hc]; exact con28_7 hb hI hc
    · rw [hc]; exact con28_8 hb hI hc
    · rw [hc]; exact con28_9 hb hI hc
    · rw [hc]; exact con28_10 hb hI hc
    · rw [hc]; exact con28_11 hb hI hc
  · have hs:gStep s id=s:=by unfold gStep; rw [if_pos (by simp [hI])]
    rw [hs]
    have hI':gIs s id=false:=by simpa using hI
    have hT:s.threads.length≤100000000:=by omega
    refine mcb_of_vc mix x28 (by simp [F28]) fun hw _=>?_
    clear hw hs hI
    repeat' with_reducible first|refine gTn_of (fun h=>?_) (fun h=>?_)|refine gT_of (fun h=>?_) (fun h=>?_)|refine caseTn_of (fun h=>?_) (fun h=>?_)|refine caseT_of (fun h=>?_) (fun h=>?_)|refine FN ?_ ?_ ?_ ?_ rfl ?_|refine kv_ifn ?_ ?_|refine kv_if ?_ ?_|refine k_if ?_ ?_|refine IA ?_ ?_ ?_|refine L1 ?_ ?_|refine L2 ?_ ?_|refine L3 ?_ ?_ ?_ ?_|refine L4 ?_ ?_|refine L5 ?_ ?_ ?_ ?_ ?_|refine L6 ?_ ?_ ?_ ?_ ?_|refine AC.p0 (con52b ?_) ?_ (by simp -implicitDefEqProofs only [qU,pure_encZ]; done) ?_ ?_|simp -implicitDefEqProofs only [F28,qA,ld_0,ld_pv,st_0,doEqs,qU,List.reduceReplicate,Nat.reduceAdd,Nat.reduceSub,Nat.reduceLeDiff,Nat.reduceEqDiff,Nat.reduceMul,reduceIte,reduceCtorEq,qI,Nat.reduceLT,Nat.reduceBEq,up_s,Int.toNat_natCast,encT,qZ,splice_c,sp_word,sp_slots,sp_sends,sp_recvs,sp_full,sp_empty,sp_allZ,sp_allW,sp_allV,qC,encW,encV,Int.natCast_zero, *]
    all_goals first
      | exact Wk.refl _
      | exact hT
      | trace_state

end Go.Sak
