/- Part S87 of the proofs about the program: K113, K114. Conditions: none. -/
import Derived.Test.YtccdhjhffebpoaaGreatS86
import Derived.Test.YtccdhjhffebpoaaGreatS04
import Derived.Test.YtccdhjhffebpoaaGreatProg
import Derived.KernelRfl
import Derived.Test.YtccdhjhffebpoaaGreatS30
namespace Go.Sak
open Go Go.RowKit Go.Proofs
set_option linter.unusedVariables false
set_option linter.unusedSimpArgs false
set_option maxRecDepth 10000
set_option maxHeartbeats 8000000
theorem ev_f (s:State):((encZ s).drop 13).take 2=[.int .i64 s.full.ep,.slv 1 (s.full.ln.map encI)]:=rfl
theorem ev_e (s:State):((encZ s).drop 15).take 2=[.int .i64 s.empty.ep,.slv 1 (s.empty.ln.map encI)]:=rfl
theorem park_eq {t:Thread} (h:tRuns t=0):(tPark (setPc t 2) 2).1=(tPark t 2).1:=by
  have h2:tRuns (setPc t 2)=0:=h
  unfold tPark; rw [if_neg (by simp [h2]),if_neg (by simp [h])]; rfl
theorem wev_no {w:Word} {room hd:Int} (h:(wEvict w room hd).2=false):(wEvict w room hd).1=w:=by
  unfold wEvict at h ⊢; split
  · rfl
  · rename_i h9; rw [if_neg h9] at h; cases h
def F80:AFn:=⟨53,(.seq (.reg [o1 2 (.box 33 0),o1 4 (.alloc 33 [(.int .i64 0),(.int .i64 0),(.int .i64 0),(.int .i64 0),(.int .i64 0),(.int .i64 0),(.bool false),(.int .i64 0),(.int .i64 0),(.int .i64 0),.slnil,.slnil,.slnil,(.int .i64 0),.slnil,(.int .i64 0),.slnil,(.int .i64 0),.slnil,.slnil])]) (.seq (.seq (.reg [o1 10 (.faddr 18 2),o1 11 (.ld 1 false 10),o1 12 (.mv 1),o1 13 (.iaddr 11 11 12),o1 14 (.faddr 8 13),o1 15 (.ld 1 false 14)]) (.cond 15 (.seq (.reg [o1 16 (.ld 20 true 2),o1 17 (.mv 1),o1 18 (.call 70 [16,17,(ci 2)]),o2 (.st 20 4 18)]) .ret) .skip)) (.seq (.regT [o1 20 (.faddr 13 2),o1 21 (.ld 2 true 20),o1 22 (.faddr 18 2),o1 23 (.ld 1 false 22),o1 24 (.mv 1),o1 25 (.iaddr 11 23 24),o1 26 (.faddr 6 25),o1 27 (.ld 1 false 26),o1 28 (.mv 1),o1 29 (.call 171 [21,27,28]),o1 19 (.mv 29),o1 30 (.ext 19 0),o1 31 (.ext 19 1),o1 32 (.ext 19 2),o1 5 (.alloc 29 [(.int .i64 0),.slnil]),o2 (.st 2 5 30),o1 6 (.mv 31),o1 7 (.mv 32)] [(0,2),(1,2),(0,3),(1,3),(0,5),(1,5),(0,6),(1,6),(0,7),(1,7),(0,14),(1,14),(2,14),(3,14),(5,14),(6,14),(7,14),(9,14)]) (.seq (.reg [o1 33 (.ld 2 true 5),o1 34 (.faddr 13 2),o2 (.st 2 34 33)]) (.seq (.seq (.reg [o1 35 (.mv 6),o1 36 (.not 35)]) (.cond 36 (.seq (.reg [o1 37 (.ld 20 true 2),o1 38 (.mv 1),o1 39 (.call 70 [37,38,(ci 2)]),o2 (.st 20 4 39)]) .ret) .skip)) (.seq (.reg [o1 41 (.faddr 18 2),o1 42 (.ld 1 false 41),o1 43 (.mv 1),o1 44 (.iaddr 11 42 43),o1 45 (.ld 11 true 44),o1 46 (.call 172 [45,(ci 2)]),o1 40 (.mv 46),o1 47 (.ext 40 0),o1 48 (.ext 40 1),o1 8 (.alloc 48 [(.int .i64 0),(.int .i64 0),(.int .i64 0),(.int .i64 0),(.int .i64 0),(.int .i64 0),(.int .i64 0),(.int .i64 0),(.bool false),(.int .i64 0),(.int .i64 0)]),o2 (.st 11 8 47),o1 9 (.mv 48)]) (.seq (.reg [o1 49 (.ld 20 true 2),o1 50 (.mv 1),o1 51 (.ld 11 true 8),o1 52 (.call 76 [49,50,51]),o2 (.st 20 4 52)]) .ret))))))),[(4,some (20,true))]⟩
theorem x80:xf Tryz.prog 80=some F80:=by kernel_rfl
theorem con80 {s:State} {id:Int} (hT:s.threads.length≤100000000) (h7:s.log.length≤100000000) (h0:0≤id) (hlt:id<s.threads.length) (hf:s.full.ln.length≤1000000) (hr:tRuns (me s id)=0):Con Tryz.prog 80 [.agg (encZ s),.int .i64 id] (.agg (encZ (sCommit s id)),[],[]):=by
  refine mcb_of_vc mix x80 (by simp [F80]) fun hw _=>?_
  clear hw
  repeat' with_reducible first|refine gTn_of (fun h=>?_) (fun h=>?_)|refine gT_of (fun h=>?_) (fun h=>?_)|refine caseTn_of (fun h=>?_) (fun h=>?_)|refine caseT_of (fun h=>?_) (fun h=>?_)|refine FN ?_ ?_ ?_ ?_ rfl ?_|refine kv_ifn ?_ ?_|refine kv_if ?_ ?_|refine k_if ?_ ?_|refine IA ?_ ?_ ?_|refine L1 ?_ ?_|refine L2 ?_ ?_|refine L3 ?_ ?_ ?_ ?_|refine L4 ?_ ?_|refine L5 ?_ ?_ ?_ ?_ ?_|refine L6 ?_ ?_ ?_ ?_ ?_|refine ia_of (d:=default) ?_ ?_|refine ap_of (rw_slv _ _ _) (by simp -implicitDefEqProofs only [m_get,Nat.reduceEqDiff,reduceIte,if_true,if_false]; first|done|exact rfl) ?_ ?_ ?_ ?_|refine ap_of (rw_slm _ _ _ _ _ _ (by simp -implicitDefEqProofs only [m_get,Nat.reduceEqDiff,reduceIte,if_true,if_false]; first|done|exact rfl) ?_) (by simp -implicitDefEqProofs only [m_get,Nat.reduceEqDiff,reduceIte,if_true,if_false]; first|done|exact rfl) ?_ ?_ ?_ ?_|refine AC.p0 (con76s ?_ ?_ ?_) ?_ (by simp -implicitDefEqProofs only [qU,pure_encZ]; done) ?_ ?_|refine AC.p0 (con176s ?_ ?_) ?_ (by simp -implicitDefEqProofs only [qU,pure_encZ]; done) ?_ ?_|refine AC.p0 (con78s ?_) ?_ (by simp -implicitDefEqProofs only [qU,pure_encZ]; done) ?_ ?_|refine AC.p0 (con70 ?_ ?_ ?_) ?_ (by simp -implicitDefEqProofs only [qU,pure_encZ]; done) ?_ ?_|refine AC.p0 (con162 ?_ ?_ ?_) ?_ (by simp -implicitDefEqProofs only [qU,pure_encZ]; done) ?_ ?_|refine AC.p0 (con161 ?_ ?_ ?_ ?_) ?_ (by simp -implicitDefEqProofs only [qU,pure_encZ]; done) ?_ ?_|refine AC.p0 (con160 ?_ ?_ ?_ ?_) ?_ (by simp -implicitDefEqProofs only [qU,pure_encZ]; done) ?_ ?_|refine AC.p0 (con174s ?_) ?_ (by simp -implicitDefEqProofs only [qU,pure_encZ]; done) ?_ ?_|refine P0 (con171 ?_) ?_ ?_ ?_|refine ACV.of (con171 ?_) ?_ ?_ ?_|refine ACK.of (con171 ?_) ?_ ?_|refine P0 (con172) ?_ ?_ ?_|refine ACV.of (con172) ?_ ?_ ?_|refine ACK.of (con172) ?_ ?_|simp -implicitDefEqProofs only [F80,qA,ld_0,ld_pv,st_0,doEqs,qU,List.reduceReplicate,Nat.reduceAdd,Nat.reduceSub,Nat.reduceLeDiff,Nat.reduceEqDiff,Nat.reduceMul,reduceIte,reduceCtorEq,qI,Nat.reduceLT,Nat.reduceBEq,up_s,Int.toNat_natCast,encT,qZ,splice_c,sp_word,sp_slots,sp_sends,sp_recvs,sp_full,sp_empty,sp_allZ,sp_allW,sp_allV,qC,encW,encV,Int.natCast_zero,ev_f, *]
  all_goals first
    | omega
    | exact Wk.refl _
    | (simp only [pures,AV.pure,pure_encZ,pure_encC7,Bool.and_true]; done)
    | exact ⟨h0,hlt⟩
    | exact h0
    | exact hlt
    | exact hT
    | exact h7
    | (rw [tell_len]; first | exact hT | exact hlt)
    | (simp only [withWord,withSlots,withSends,withRecvs,withFull,withEmpty,put1,List.length_set]; first | exact hT | exact h7 | exact hlt | omega)
    | (refine Wk.of_eq ?_; unfold sCommit; rw [if_pos (show (me s id).late=true from (by assumption:(s.threads.getD id.toNat default).late=true))]; first | done | rfl)
    | (have h9:(me s id).late=false:=(by assumption:(s.threads.getD id.toNat default).late=false)
       have h8:(vCommit s.full (me s id).seen id).2.1=true:=(by assumption:(vCommit s.full (s.threads.getD id.toNat default).seen id).2.1=true)
       refine Wk.of_eq ?_; unfold sCommit; rw [if_neg (by simp [h9])]; simp only []; rw [if_pos h8,park_eq hr]; first | done | rfl)
    | (have h9:(me s id).late=false:=(by assumption:(s.threads.getD id.toNat default).late=false)
       have h8:(vCommit s.full (me s id).seen id).2.1=false:=(by assumption:(vCommit s.full (s.threads.getD id.toNat default).seen id).2.1=false)
       refine Wk.of_eq ?_; unfold sCommit; rw [if_neg (by simp [h9])]; simp only []; rw [if_neg (by simp [h8])]; first | done | rfl)
    | exact hf
    | trace_state

def F83:AFn:=⟨41,(.seq (.reg [o1 2 (.box 33 0),o1 4 (.alloc 33 [(.int .i64 0),(.int .i64 0),(.int .i64 0),(.int .i64 0),(.int .i64 0),(.int .i64 0),(.bool false),(.int .i64 0),(.int .i64 0),(.int .i64 0),.slnil,.slnil,.slnil,(.int .i64 0),.slnil,(.int .i64 0),.slnil,(.int .i64 0),.slnil,.slnil])]) (.seq (.reg [o1 9 (.faddr 18 2),o1 10 (.ld 1 false 9),o1 11 (.mv 1),o1 12 (.iaddr 11 10 11),o1 13 (.faddr 5 12),o1 14 (.ld 1 false 13),o1 5 (.mv 14)]) (.seq (.reg [o1 15 (.ld 20 true 2),o1 16 (.mv 5),o1 17 (.call 174 [15,16]),o1 6 (.mv 17)]) (.seq (.reg [o1 19 (.faddr 7 2),o1 20 (.ld 3 true 19),o1 21 (.faddr 10 2),o1 22 (.ld 1 false 21),o1 23 (.len 22),o1 24 (.mv 5),o1 25 (.call 175 [20,23,24]),o1 18 (.mv 25),o1 26 (.ext 18 0),o1 27 (.ext 18 1),o1 7 (.alloc 25 [(.int .i64 0),(.int .i64 0),(.int .i64 0)]),o2 (.st 3 7 26),o1 8 (.mv 27)]) (.seq (.seq (.reg [o1 28 (.mv 8),o1 29 (.not 28)]) (.cond 29 (.seq (.reg [o1 30 (.ld 20 true 2),o1 31 (.mv 1),o1 32 (.call 70 [30,31,(ci 2)]),o2 (.st 20 4 32)]) .ret) .skip)) (.seq (.reg [o1 33 (.ld 3 true 7),o1 34 (.faddr 7 2),o2 (.st 3 34 33)]) (.seq (.reg [o1 35 (.ld 20 true 2),o1 36 (.mv 1),o1 37 (.mv 6),o1 38 (.call 176 [35,36,(ci 9),(ci 1),37]),o1 39 (.mv 1),o1 40 (.call 70 [38,39,(ci 11)]),o2 (.st 20 4 40)]) .ret))))))),[(4,some (20,true))]⟩
theorem x83:xf Tryz.prog 83=some F83:=by kernel_rfl
theorem con83 {s:State} {id:Int} (hT:s.threads.length≤100000000) (h7:s.log.length≤100000000) (h0:0≤id) (hlt:id<s.threads.length):Con Tryz.prog 83 [.agg (encZ s),.int .i64 id] (.agg (encZ (sEvict s id)),[],[]):=by
  refine mcb_of_vc mix x83 (by simp [F83]) fun hw _=>?_
  clear hw
  repeat' with_reducible first|refine gTn_of (fun h=>?_) (fun h=>?_)|refine gT_of (fun h=>?_) (fun h=>?_)|refine caseTn_of (fun h=>?_) (fun h=>?_)|refine caseT_of (fun h=>?_) (fun h=>?_)|refine FN ?_ ?_ ?_ ?_ rfl ?_|refine kv_ifn ?_ ?_|refine kv_if ?_ ?_|refine k_if ?_ ?_|refine IA ?_ ?_ ?_|refine L1 ?_ ?_|refine L2 ?_ ?_|refine L3 ?_ ?_ ?_ ?_|refine L4 ?_ ?_|refine L5 ?_ ?_ ?_ ?_ ?_|refine L6 ?_ ?_ ?_ ?_ ?_|refine ia_of (d:=default) ?_ ?_|refine ap_of (rw_slv _ _ _) (by simp -implicitDefEqProofs only [m_get,Nat.reduceEqDiff,reduceIte,if_true,if_false]; first|done|exact rfl) ?_ ?_ ?_ ?_|refine ap_of (rw_slm _ _ _ _ _ _ (by simp -implicitDefEqProofs only [m_get,Nat.reduceEqDiff,reduceIte,if_true,if_false]; first|done|exact rfl) ?_) (by simp -implicitDefEqProofs only [m_get,Nat.reduceEqDiff,reduceIte,if_true,if_false]; first|done|exact rfl) ?_ ?_ ?_ ?_|refine AC.p0 (con76s ?_ ?_ ?_) ?_ (by simp -implicitDefEqProofs only [qU,pure_encZ]; done) ?_ ?_|refine AC.p0 (con176s ?_ ?_) ?_ (by simp -implicitDefEqProofs only [qU,pure_encZ]; done) ?_ ?_|refine AC.p0 (con78s ?_) ?_ (by simp -implicitDefEqProofs only [qU,pure_encZ]; done) ?_ ?_|refine AC.p0 (con70 ?_ ?_ ?_) ?_ (by simp -implicitDefEqProofs only [qU,pure_encZ]; done) ?_ ?_|refine AC.p0 (con162 ?_ ?_ ?_) ?_ (by simp -implicitDefEqProofs only [qU,pure_encZ]; done) ?_ ?_|refine AC.p0 (con161 ?_ ?_ ?_ ?_) ?_ (by simp -implicitDefEqProofs only [qU,pure_encZ]; done) ?_ ?_|refine AC.p0 (con160 ?_ ?_ ?_ ?_) ?_ (by simp -implicitDefEqProofs only [qU,pure_encZ]; done) ?_ ?_|refine AC.p0 (con174s ?_) ?_ (by simp -implicitDefEqProofs only [qU,pure_encZ]; done) ?_ ?_|refine P0 (con175) ?_ ?_ ?_|refine ACV.of (con175) ?_ ?_ ?_|refine ACK.of (con175) ?_ ?_|simp -implicitDefEqProofs only [F83,qA,ld_0,ld_pv,st_0,doEqs,qU,List.reduceReplicate,Nat.reduceAdd,Nat.reduceSub,Nat.reduceLeDiff,Nat.reduceEqDiff,Nat.reduceMul,reduceIte,reduceCtorEq,qI,Nat.reduceLT,Nat.reduceBEq,up_s,Int.toNat_natCast,encT,qZ,splice_c,sp_word,sp_slots,sp_sends,sp_recvs,sp_full,sp_empty,sp_allZ,sp_allW,sp_allV,qC,encW,encV,Int.natCast_zero, *]
  all_goals first
    | omega
    | exact Wk.refl _
    | (simp only [pures,AV.pure,pure_encZ,pure_encC7,Bool.and_true]; done)
    | exact ⟨h0,hlt⟩
    | exact h0
    | exact hlt
    | exact hT
    | exact h7
    | (rw [tell_len]; first | exact hT | exact hlt)
    | (simp only [withWord,withSlots,withSends,withRecvs,withFull,withEmpty,put1,List.length_set]; first | exact hT | exact h7 | exact hlt | omega)
    | (have h8:(wEvict s.word s.slots.length (me s id).reg).2=true:=(by assumption:(wEvict s.word s.slots.length (s.threads.getD id.toNat default).reg).2=true)
       refine Wk.of_eq ?_; unfold sEvict; simp only []; rw [if_neg (by simp [h8])]; first | done | rfl)
    | (have h8:(wEvict s.word s.slots.length (me s id).reg).2=false:=(by assumption:(wEvict s.word s.slots.length (s.threads.getD id.toNat default).reg).2=false)
       refine Wk.of_eq ?_; unfold sEvict; simp only []; rw [if_pos (by simp [h8])]; first | done | (rw [wev_no h8]; rfl))
    | (rw [tell_len]; exact hlt)
    | trace_state

def F21:AFn:=⟨167,(.seq (.reg [o1 2 (.box 33 0),o1 4 (.alloc 33 [(.int .i64 0),(.int .i64 0),(.int .i64 0),(.int .i64 0),(.int .i64 0),(.int .i64 0),(.bool false),(.int .i64 0),(.int .i64 0),(.int .i64 0),.slnil,.slnil,.slnil,(.int .i64 0),.slnil,(.int .i64 0),.slnil,(.int .i64 0),.slnil,.slnil])]) (.seq (.reg [o1 16 (.ld 20 true 2),o1 17 (.mv 1),o1 18 (.call 52 [16,17,(ci 1)]),o1 5 (.mv 18)]) (.seq (.seq (.reg [o1 19 (.mv 5),o1 20 (.not 19)]) (.cond 20 (.seq (.reg [o1 21 (.ld 20 true 2),o2 (.st 20 4 21)]) .ret) .skip)) (.seq (.reg [o1 22 (.faddr 18 2),o1 23 (.ld 1 false 22),o1 24 (.mv 1),o1 25 (.iaddr 11 23 24),o1 26 (.ld 11 true 25),o1 6 (.alloc 48 [(.int .i64 0),(.int .i64 0),(.int .i64 0),(.int .i64 0),(.int .i64 0),(.int .i64 0),(.int .i64 0),(.int .i64 0),(.bool false),(.int .i64 0),(.int .i64 0)]),o2 (.st 11 6 26)]) (.seq (.seq (.reg [o1 27 (.faddr 4 6),o1 28 (.ld 1 false 27)]) (.block 0 (.seq (.reg [o1 30 (.bin .eql 28 (ci 0)),o1 29 (.mv 30)]) (.cond 29 (.seq (.reg [o1 32 (.faddr 11 2),o1 33 (.ld 1 false 32),o1 34 (.mv 1),o1 35 (.call 69 [33,34]),o1 31 (.mv 35),o1 36 (.ext 31 0),o1 37 (.ext 31 1),o1 38 (.faddr 11 2),o2 (.st 1 38 36)]) (.seq (.reg [o1 39 (.ld 20 true 2),o1 40 (.mv 1),o1 41 (.call 70 [39,40,(ci 1)]),o2 (.st 20 4 41)]) .ret)) (.seq (.reg [o1 43 (.bin .eql 28 (ci 1)),o1 42 (.mv 43)]) (.cond 42 (.seq (.reg [o1 44 (.ld 20 true 2),o1 45 (.mv 1),o1 46 (.call 71 [44,45]),o2 (.st 20 4 46)]) .ret) (.seq (.reg [o1 48 (.bin .eql 28 (ci 2)),o1 47 (.mv 48)]) (.cond 47 (.seq (.reg [o1 49 (.ld 20 true 2),o1 50 (.mv 1),o1 51 (.call 72 [49,50]),o2 (.st 20 4 51)]) .ret) (.seq (.reg [o1 53 (.bin .eql 28 (ci 3)),o1 52 (.mv 53)]) (.cond 52 (.seq (.reg [o1 55 (.faddr 10 2),o1 56 (.ld 1 false 55),o1 57 (.faddr 5 6),o1 58 (.ld 1 false 57),o1 59 (.faddr 2 6),o1 60 (.ld 1 false 59),o1 61 (.call 73 [56,58,60]),o1 54 (.mv 61),o1 62 (.ext 54 0),o1 63 (.ext 54 1),o1 7 (.mv 62),o1 8 (.mv 63)]) (.seq (.seq (.reg [o1 64 (.mv 8),o1 65 (.bin .neq 64 (ci 0))]) (.cond 65 (.seq (.reg [o1 66 (.ld 20 true 2),o2 (.st 20 4 66)]) .ret) .skip)) (.seq (.reg [o1 67 (.mv 7),o1 68 (.faddr 10 2),o2 (.st 1 68 67)]) (.seq (.reg [o1 69 (.ld 20 true 2),o1 70 (.mv 1),o1 71 (.call 70 [69,70,(ci 4)]),o2 (.st 20 4 71)]) .ret)))) (.seq (.reg [o1 73 (.bin .eql 28 (ci 4)),o1 72 (.mv 73)]) (.cond 72 (.seq (.reg [o1 74 (.ld 20 true 2),o1 75 (.mv 1),o1 76 (.call 74 [74,75]),o2 (.st 20 4 76)]) .ret) (.seq (.reg [o1 78 (.bin .eql 28 (ci 5)),o1 77 (.mv 78)]) (.cond 77 (.seq (.reg [o1 79 (.faddr 13 2),o1 80 (.ld 2 true 79),o1 81 (.call 75 [80]),o1 82 (.faddr 6 6),o2 (.st 1 82 81)]) (.seq (.reg [o1 83 (.faddr 4 6),o2 (.st 1 83 (ci 7))]) (.seq (.reg [o1 84 (.ld 20 true 2),o1 85 (.mv 1),o1 86 (.ld 11 true 6),o1 87 (.call 76 [84,85,86]),o2 (.st 20 4 87)]) .ret))) (.seq (.reg [o1 89 (.bin .eql 28 (ci 6)),o1 88 (.mv 89)]) (.cond 88 (.seq (.reg [o1 91 (.faddr 15 2),o1 92 (.ld 2 true 91),o1 93 (.call 77 [92]),o1 90 (.mv 93),o1 94 (.ext 90 0),o1 95 (.ext 90 1),o1 96 (.ext 90 2),o1 9 (.alloc 29 [(.int .i64 0),.slnil]),o2 (.st 2 9 94),o1 10 (.mv 95),o1 11 (.mv 96)]) (.seq (.reg [o1 97 (.ld 2 true 9),o1 98 (.faddr 15 2),o2 (.st 2 98 97)]) (.seq (.reg [o1 99 (.ld 20 true 2),o1 100 (.mv 1),o1 101 (.call 70 [99,100,(ci 9)]),o2 (.st 20 2 101)]) (.seq (.seq (.reg [o1 102 (.mv 11)]) (.cond 102 (.reg [o1 103 (.ld 20 true 2),o1 104 (.mv 10),o1 105 (.call 78 [103,104]),o2 (.st 20 2 105)]) .skip)) (.seq (.reg [o1 106 (.ld 20 true 2),o2 (.st 20 4 106)]) .ret))))) (.seq (.reg [o1 108 (.bin .eql 28 (ci 7)),o1 107 (.mv 108)]) (.cond 107 (.seq (.seq (.reg [o1 109 (.ld 20 true 2),o1 110 (.call 79 [109]),o1 111 (.bin .eql 110 (ci 2)),o1 112 (.mv 111),o3 113 (.faddr 8 6) 112,o3 114 (.ld 1 false 113) 112,o3 115 (.not 114) 112,o1 116 (.pick 112 115 (.const (.bool false)))]) (.cond 116 (.seq (.reg [o1 117 (.ld 20 true 2),o1 118 (.mv 1),o1 119 (.call 70 [117,118,(ci 8)]),o2 (.st 20 4 119)]) .ret) .skip)) (.seq (.reg [o1 120 (.ld 20 true 2),o1 121 (.mv 1),o1 122 (.call 70 [120,121,(ci 2)]),o2 (.st 20 4 122)]) .ret)) (.seq (.reg [o1 124 (.bin .eql 28 (ci 8)),o1 123 (.mv 124)]) (.cond 123 (.seq (.reg [o1 125 (.ld 20 true 2),o1 126 (.mv 1),o1 127 (.call 80 [125,126]),o2 (.st 20 4 127)]) .ret) (.seq (.reg [o1 129 (.bin .eql 28 (ci 9)),o1 128 (.mv 129)]) (.cond 128 (.seq (.reg [o1 131 (.faddr 11 2),o1 132 (.ld 1 false 131),o1 133 (.mv 1),o1 134 (.call 81 [132,133]),o1 130 (.mv 134),o1 135 (.ext 130 0),o1 136 (.ext 130 1),o1 137 (.faddr 11 2),o2 (.st 1 137 135)]) (.seq (.reg [o1 139 (.ld 11 true 6),o1 140 (.call 82 [139]),o1 138 (.mv (.tmp 140)),o1 141 (.ext 138 0),o1 142 (.ext 138 1),o1 12 (.alloc 48 [(.int .i64 0),(.int .i64 0),(.int .i64 0),(.int .i64 0),(.int .i64 0),(.int .i64 0),(.int .i64 0),(.int .i64 0),(.bool false),(.int .i64 0),(.int .i64 0)]),o2 (.st 11 12 (.tmp 141)),o1 13 (.mv (.tmp 142))]) (.seq (.reg [o1 143 (.ld 20 true 2),o1 144 (.mv 1),o1 145 (.ld 11 true 12),o1 146 (.call 76 [(.tmp 143),(.tmp 144),(.tmp 145)]),o2 (.st 20 4 (.tmp 146))]) .ret))) (.seq (.reg [o1 148 (.bin .eql 28 (ci 10)),o1 147 (.mv (.tmp 148))]) (.cond (.tmp 147) (.seq (.reg [o1 149 (.ld 20 true 2),o1 150 (.mv 1),o1 151 (.call 83 [(.tmp 149),(.tmp 150)]),o2 (.st 20 4 (.tmp 151))]) .ret) .skip)))))))))))))))))))))))) (.seq (.reg [o1 153 (.faddr 10 2),o1 154 (.ld 1 false (.tmp 153)),o1 155 (.faddr 5 6),o1 156 (.ld 1 false (.tmp 155)),o1 157 (.call 84 [(.tmp 154),(.tmp 156)]),o1 152 (.mv (.tmp 157)),o1 158 (.ext (.tmp 152) 0),o1 159 (.ext (.tmp 152) 1),o1 14 (.mv (.tmp 158)),o1 15 (.mv (.tmp 159))]) (.seq (.seq (.reg [o1 160 (.mv 15),o1 161 (.bin .eql (.tmp 160) (ci 0))]) (.cond (.tmp 161) (.reg [o1 162 (.mv 14),o1 163 (.faddr 10 2),o2 (.st 1 (.tmp 163) (.tmp 162))]) .skip)) (.seq (.reg [o1 164 (.ld 20 true 2),o1 165 (.mv 1),o1 166 (.call 70 [(.tmp 164),(.tmp 165),(ci 2)]),o2 (.st 20 4 (.tmp 166))]) .ret)))))))),[(4,some (20,true))]⟩
theorem x21:xf Tryz.prog 21=some F21:=by kernel_rfl
theorem con52a {s:State} {id:Int} (h:s.threads.length≤100000000):Con Tryz.prog 52 [.agg (encZ s),.int .i64 id,.int .i64 1] (.bool (sIs s id),[],[]):=con52 h
theorem wake_at {u:State} {id n pc:Int} (hR:Rn u id) (h0:0≤pc) (h1:pc≤11):fabWake (rAt u id pc) n=rAt (fabWake u n) id pc:=by
  have e1:fabIs (rAt u id pc) n=fabIs u n:=by
    have f1:=fab_iff.2 hR.fab
    have f2:=fab_iff.2 (hR.at h0 h1).fab
    unfold fabIs; rw [f1,f2]; simp [rAt,put1]
  have hlo:=hR.lo
  have hhi:=hR.hi
  have hid:id.toNat<u.threads.length:=by omega
  unfold fabWake; rw [e1]
  split
  · rename_i hn
    have hn':=lt_of_is hn
    by_cases e:n=id
    · subst e
      have hw:tWake (me u n)=me u n:=by unfold tWake; rw [if_neg (by rw [hR.run]; simp)]
      have hm:me (rAt u n pc) n=setPc (me u n) pc:=me_put hlo hhi
      have hw2:tWake (setPc (me u n) pc)=setPc (me u n) pc:=by
        unfold tWake; rw [if_neg]
        show ¬ (me u n).st=2
        rw [hR.run]; simp
      rw [hm,hw2,hw]
      have hl:(u.threads.set n.toNat (setPc (me u n) pc)).set n.toNat (setPc (me u n) pc)=(u.threads.set n.toNat (me u n)).set n.toNat (setPc ((u.threads.set n.toNat (me u n)).getD n.toNat default) pc):=by
        rw [getD_set_same hid,set_set,set_set]
      simp only [rAt,put1,me] at hl ⊢
      rw [hl]
    · have hm:me (rAt u id pc) n=me u n:=by simp only [rAt,put1,me]; rw [getD_set,if_neg (by omega)]
      rw [hm]
      have hl:(u.threads.set id.toNat (setPc (me u id) pc)).set n.toNat (tWake (me u n))=(u.threads.set n.toNat (tWake (me u n))).set id.toNat (setPc ((u.threads.set n.toNat (tWake (me u n))).getD id.toNat default) pc):=by
        rw [getD_set,if_neg (by omega),List.set_comm _ _ (by omega)]
        rfl
      simp only [rAt,put1,me] at hl ⊢
      rw [hl]
  · rfl
theorem con21_0 {s:State} {id:Int} (hb:Bd s 1000000) (hI:sIs s id=true) (hpc:(s.threads.getD id.toNat default).pc=0):Con Tryz.prog 21 [.agg (encZ s),.int .i64 id] (.agg (encZ (sEnter s id)),[],[]):=by
  have hb':=hb
  unfold Bd at hb'
  have hT:s.threads.length≤100000000:=by omega
  have h7:s.log.length≤100000000:=by omega
  have hI':=hI
  simp only [sIs,fabIs,Bool.and_eq_true,decide_eq_true_eq] at hI'
  obtain ⟨⟨⟨⟨hchk,h0⟩,hlt⟩,hr⟩,hside⟩:=hI'
  have ht:=tries_of hchk h0 hlt
  clear hchk hside
  refine mcb_of_vc mix x21 (by simp [F21]) fun hw _=>?_
  clear hw
  repeat' with_reducible first|refine gTn_of (fun h=>?_) (fun h=>?_)|refine gT_of (fun h=>?_) (fun h=>?_)|refine caseTn_of (fun h=>?_) (fun h=>?_)|refine caseT_of (fun h=>?_) (fun h=>?_)|refine FN ?_ ?_ ?_ ?_ rfl ?_|refine kv_ifn ?_ ?_|refine kv_if ?_ ?_|refine k_if ?_ ?_|refine IA ?_ ?_ ?_|refine L1 ?_ ?_|refine L2 ?_ ?_|refine L3 ?_ ?_ ?_ ?_|refine L4 ?_ ?_|refine L5 ?_ ?_ ?_ ?_ ?_|refine L6 ?_ ?_ ?_ ?_ ?_|refine ia_of (d:=default) ?_ ?_|refine ap_of (rw_slv _ _ _) (by simp -implicitDefEqProofs only [m_get,Nat.reduceEqDiff,reduceIte,if_true,if_false]; first|done|exact rfl) ?_ ?_ ?_ ?_|refine ap_of (rw_slm _ _ _ _ _ _ (by simp -implicitDefEqProofs only [m_get,Nat.reduceEqDiff,reduceIte,if_true,if_false]; first|done|exact rfl) ?_) (by simp -implicitDefEqProofs only [m_get,Nat.reduceEqDiff,reduceIte,if_true,if_false]; first|done|exact rfl) ?_ ?_ ?_ ?_|refine AC.p0 (con76s ?_ ?_ ?_) ?_ (by simp -implicitDefEqProofs only [qU,pure_encZ]; done) ?_ ?_|refine AC.p0 (con176s ?_ ?_) ?_ (by simp -implicitDefEqProofs only [qU,pure_encZ]; done) ?_ ?_|refine AC.p0 (con78s ?_) ?_ (by simp -implicitDefEqProofs only [qU,pure_encZ]; done) ?_ ?_|refine AC.p0 (con70 ?_ ?_ ?_) ?_ (by simp -implicitDefEqProofs only [qU,pure_encZ]; done) ?_ ?_|refine AC.p0 (con162 ?_ ?_ ?_) ?_ (by simp -implicitDefEqProofs only [qU,pure_encZ]; done) ?_ ?_|refine AC.p0 (con161 ?_ ?_ ?_ ?_) ?_ (by simp -implicitDefEqProofs only [qU,pure_encZ]; done) ?_ ?_|refine AC.p0 (con160 ?_ ?_ ?_ ?_) ?_ (by simp -implicitDefEqProofs only [qU,pure_encZ]; done) ?_ ?_|refine AC.p0 (con174s ?_) ?_ (by simp -implicitDefEqProofs only [qU,pure_encZ]; done) ?_ ?_|refine AC.p0 (con71 ?_ ?_ ?_ ?_ ?_) ?_ ?_ ?_ ?_|refine AC.p0 (con72 ?_ ?_ ?_ ?_ ?_) ?_ ?_ ?_ ?_|refine AC.p0 (con74 ?_ ?_ ?_ ?_) ?_ ?_ ?_ ?_|refine AC.p0 (con80 ?_ ?_ ?_ ?_ ?_ ?_) ?_ ?_ ?_ ?_|refine AC.p0 (con83 ?_ ?_ ?_ ?_) ?_ ?_ ?_ ?_|refine AC.p0 (con79 ) ?_ (by simp -implicitDefEqProofs only [qU,pure_encZ]; done) ?_ ?_|refine AC.p0 (con52a ?_) ?_ (by simp -implicitDefEqProofs only [qU,pure_encZ]; done) ?_ ?_|refine AC.p0 (con77 ?_) ?_ (by simp -implicitDefEqProofs only [qU,pure_encZ]; done) ?_ ?_|refine AC.p0 (con69 ?_) ?_ (by simp -implicitDefEqProofs only [qU,pure_encZ]; done) ?_ ?_|refine AC.p0 (con81 ?_) ?_ (by simp -implicitDefEqProofs only [qU,pure_encZ]; done) ?_ ?_|refine P0 (con73) ?_ ?_ ?_|refine ACV.of (con73) ?_ ?_ ?_|refine ACK.of (con73) ?_ ?_|refine P0 (con84) ?_ ?_ ?_|refine ACV.of (con84) ?_ ?_ ?_|refine ACK.of (con84) ?_ ?_|refine P0 (con75) ?_ ?_ ?_|refine ACV.of (con75) ?_ ?_ ?_|refine ACK.of (con75) ?_ ?_|refine P0 (con82) ?_ ?_ ?_|refine ACV.of (con82) ?_ ?_ ?_|refine ACK.of (con82) ?_ ?_|simp -implicitDefEqProofs only [F21,qA,ld_0,ld_pv,st_0,doEqs,qU,List.reduceReplicate,Nat.reduceAdd,Nat.reduceSub,Nat.reduceLeDiff,Nat.reduceEqDiff,Nat.reduceMul,reduceIte,reduceCtorEq,qI,Nat.reduceLT,Nat.reduceBEq,up_s,Int.toNat_natCast,encT,qZ,splice_c,sp_word,sp_slots,sp_sends,sp_recvs,sp_full,sp_empty,sp_allZ,sp_allW,sp_allV,qC,encW,encV,Int.natCast_zero,ev_f,ev_e,hpc,hI,Int.reduceEq,Int.reduceNe, *]
  all_goals first
    | omega
    | exact Wk.refl _
    | exact ht
    | exact hr
    | (simp only [pures,AV.pure,pure_encZ,pure_encC7,Bool.and_true]; done)
    | exact ⟨h0,hlt⟩
    | exact h0
    | exact hlt
    | exact hT
    | exact h7
    | (rw [tell_len]; first | exact hT | exact hlt)
    | (simp only [withWord,withSlots,withSends,withRecvs,withFull,withEmpty,put1,List.length_set]; first | exact hT | exact h7 | exact hlt | omega)
    | trace_state

theorem con21_1 {s:State} {id:Int} (hb:Bd s 1000000) (hI:sIs s id=true) (hpc:(s.threads.getD id.toNat default).pc=1):Con Tryz.prog 21 [.agg (encZ s),.int .i64 id] (.agg (encZ (sFirst s id)),[],[]):=by
  have hb':=hb
  unfold Bd at hb'
  have hT:s.threads.length≤100000000:=by omega
  have h7:s.log.length≤100000000:=by omega
  have hI':=hI
  simp only [sIs,fabIs,Bool.and_eq_true,decide_eq_true_eq] at hI'
  obtain ⟨⟨⟨⟨hchk,h0⟩,hlt⟩,hr⟩,hside⟩:=hI'
  have ht:=tries_of hchk h0 hlt
  clear hchk hside
  refine mcb_of_vc mix x21 (by simp [F21]) fun hw _=>?_
  clear hw
  repeat' with_reducible first|refine gTn_of (fun h=>?_) (fun h=>?_)|refine gT_of (fun h=>?_) (fun h=>?_)|refine caseTn_of (fun h=>?_) (fun h=>?_)|refine caseT_of (fun h=>?_) (fun h=>?_)|refine FN ?_ ?_ ?_ ?_ rfl ?_|refine kv_ifn ?_ ?_|refine kv_if ?_ ?_|refine k_if ?_ ?_|refine IA ?_ ?_ ?_|refine L1 ?_ ?_|refine L2 ?_ ?_|refine L3 ?_ ?_ ?_ ?_|refine L4 ?_ ?_|refine L5 ?_ ?_ ?_ ?_ ?_|refine L6 ?_ ?_ ?_ ?_ ?_|refine ia_of (d:=default) ?_ ?_|refine ap_of (rw_slv _ _ _) (by simp -implicitDefEqProofs only [m_get,Nat.reduceEqDiff,reduceIte,if_true,if_false]; first|done|exact rfl) ?_ ?_ ?_ ?_|refine ap_of (rw_slm _ _ _ _ _ _ (by simp -implicitDefEqProofs only [m_get,Nat.reduceEqDiff,reduceIte,if_true,if_false]; first|done|exact rfl) ?_) (by simp -implicitDefEqProofs only [m_get,Nat.reduceEqDiff,reduceIte,if_true,if_false]; first|done|exact rfl) ?_ ?_ ?_ ?_|refine AC.p0 (con76s ?_ ?_ ?_) ?_ (by simp -implicitDefEqProofs only [qU,pure_encZ]; done) ?_ ?_|refine AC.p0 (con176s ?_ ?_) ?_ (by simp -implicitDefEqProofs only [qU,pure_encZ]; done) ?_ ?_|refine AC.p0 (con78s ?_) ?_ (by simp -implicitDefEqProofs only [qU,pure_encZ]; done) ?_ ?_|refine AC.p0 (con70 ?_ ?_ ?_) ?_ (by simp -implicitDefEqProofs only [qU,pure_encZ]; done) ?_ ?_|refine AC.p0 (con162 ?_ ?_ ?_) ?_ (by simp -implicitDefEqProofs only [qU,pure_encZ]; done) ?_ ?_|refine AC.p0 (con161 ?_ ?_ ?_ ?_) ?_ (by simp -implicitDefEqProofs only [qU,pure_encZ]; done) ?_ ?_|refine AC.p0 (con160 ?_ ?_ ?_ ?_) ?_ (by simp -implicitDefEqProofs only [qU,pure_encZ]; done) ?_ ?_|refine AC.p0 (con174s ?_) ?_ (by simp -implicitDefEqProofs only [qU,pure_encZ]; done) ?_ ?_|refine AC.p0 (con71 ?_ ?_ ?_ ?_ ?_) ?_ ?_ ?_ ?_|refine AC.p0 (con72 ?_ ?_ ?_ ?_ ?_) ?_ ?_ ?_ ?_|refine AC.p0 (con74 ?_ ?_ ?_ ?_) ?_ ?_ ?_ ?_|refine AC.p0 (con80 ?_ ?_ ?_ ?_ ?_ ?_) ?_ ?_ ?_ ?_|refine AC.p0 (con83 ?_ ?_ ?_ ?_) ?_ ?_ ?_ ?_|refine AC.p0 (con79 ) ?_ (by simp -implicitDefEqProofs only [qU,pure_encZ]; done) ?_ ?_|refine AC.p0 (con52a ?_) ?_ (by simp -implicitDefEqProofs only [qU,pure_encZ]; done) ?_ ?_|refine AC.p0 (con77 ?_) ?_ (by simp -implicitDefEqProofs only [qU,pure_encZ]; done) ?_ ?_|refine AC.p0 (con69 ?_) ?_ (by simp -implicitDefEqProofs only [qU,pure_encZ]; done) ?_ ?_|refine AC.p0 (con81 ?_) ?_ (by simp -implicitDefEqProofs only [qU,pure_encZ]; done) ?_ ?_|refine P0 (con73) ?_ ?_ ?_|refine ACV.of (con73) ?_ ?_ ?_|refine ACK.of (con73) ?_ ?_|refine P0 (con84) ?_ ?_ ?_|refine ACV.of (con84) ?_ ?_ ?_|refine ACK.of (con84) ?_ ?_|refine P0 (con75) ?_ ?_ ?_|refine ACV.of (con75) ?_ ?_ ?_|refine ACK.of (con75) ?_ ?_|refine P0 (con82) ?_ ?_ ?_|refine ACV.of (con82) ?_ ?_ ?_|refine ACK.of (con82) ?_ ?_|simp -implicitDefEqProofs only [F21,qA,ld_0,ld_pv,st_0,doEqs,qU,List.reduceReplicate,Nat.reduceAdd,Nat.reduceSub,Nat.reduceLeDiff,Nat.reduceEqDiff,Nat.reduceMul,reduceIte,reduceCtorEq,qI,Nat.reduceLT,Nat.reduceBEq,up_s,Int.toNat_natCast,encT,qZ,splice_c,sp_word,sp_slots,sp_sends,sp_recvs,sp_full,sp_empty,sp_allZ,sp_allW,sp_allV,qC,encW,encV,Int.natCast_zero,ev_f,ev_e,hpc,hI,Int.reduceEq,Int.reduceNe, *]
  all_goals first
    | omega
    | exact Wk.refl _
    | exact ht
    | exact hr
    | (simp only [pures,AV.pure,pure_encZ,pure_encC7,Bool.and_true]; done)
    | exact ⟨h0,hlt⟩
    | exact h0
    | exact hlt
    | exact hT
    | exact h7
    | (rw [tell_len]; first | exact hT | exact hlt)
    | (simp only [withWord,withSlots,withSends,withRecvs,withFull,withEmpty,put1,List.length_set]; first | exact hT | exact h7 | exact hlt | omega)
    | trace_state

theorem con21_2 {s:State} {id:Int} (hb:Bd s 1000000) (hI:sIs s id=true) (hpc:(s.threads.getD id.toNat default).pc=2):Con Tryz.prog 21 [.agg (encZ s),.int .i64 id] (.agg (encZ (sLook s id)),[],[]):=by
  have hb':=hb
  unfold Bd at hb'
  have hT:s.threads.length≤100000000:=by omega
  have h7:s.log.length≤100000000:=by omega
  have hI':=hI
  simp only [sIs,fabIs,Bool.and_eq_true,decide_eq_true_eq] at hI'
  obtain ⟨⟨⟨⟨hchk,h0⟩,hlt⟩,hr⟩,hside⟩:=hI'
  have ht:=tries_of hchk h0 hlt
  clear hchk hside
  refine mcb_of_vc mix x21 (by simp [F21]) fun hw _=>?_
  clear hw
  repeat' with_reducible first|refine gTn_of (fun h=>?_) (fun h=>?_)|refine gT_of (fun h=>?_) (fun h=>?_)|refine caseTn_of (fun h=>?_) (fun h=>?_)|refine caseT_of (fun h=>?_) (fun h=>?_)|refine FN ?_ ?_ ?_ ?_ rfl ?_|refine kv_ifn ?_ ?_|refine kv_if ?_ ?_|refine k_if ?_ ?_|refine IA ?_ ?_ ?_|refine L1 ?_ ?_|refine L2 ?_ ?_|refine L3 ?_ ?_ ?_ ?_|refine L4 ?_ ?_|refine L5 ?_ ?_ ?_ ?_ ?_|refine L6 ?_ ?_ ?_ ?_ ?_|refine ia_of (d:=default) ?_ ?_|refine ap_of (rw_slv _ _ _) (by simp -implicitDefEqProofs only [m_get,Nat.reduceEqDiff,reduceIte,if_true,if_false]; first|done|exact rfl) ?_ ?_ ?_ ?_|refine ap_of (rw_slm _ _ _ _ _ _ (by simp -implicitDefEqProofs only [m_get,Nat.reduceEqDiff,reduceIte,if_true,if_false]; first|done|exact rfl) ?_) (by simp -implicitDefEqProofs only [m_get,Nat.reduceEqDiff,reduceIte,if_true,if_false]; first|done|exact rfl) ?_ ?_ ?_ ?_|refine AC.p0 (con76s ?_ ?_ ?_) ?_ (by simp -implicitDefEqProofs only [qU,pure_encZ]; done) ?_ ?_|refine AC.p0 (con176s ?_ ?_) ?_ (by simp -implicitDefEqProofs only [qU,pure_encZ]; done) ?_ ?_|refine AC.p0 (con78s ?_) ?_ (by simp -implicitDefEqProofs only [qU,pure_encZ]; done) ?_ ?_|refine AC.p0 (con70 ?_ ?_ ?_) ?_ (by simp -implicitDefEqProofs only [qU,pure_encZ]; done) ?_ ?_|refine AC.p0 (con162 ?_ ?_ ?_) ?_ (by simp -implicitDefEqProofs only [qU,pure_encZ]; done) ?_ ?_|refine AC.p0 (con161 ?_ ?_ ?_ ?_) ?_ (by simp -implicitDefEqProofs only [qU,pure_encZ]; done) ?_ ?_|refine AC.p0 (con160 ?_ ?_ ?_ ?_) ?_ (by simp -implicitDefEqProofs only [qU,pure_encZ]; done) ?_ ?_|refine AC.p0 (con174s ?_) ?_ (by simp -implicitDefEqProofs only [qU,pure_encZ]; done) ?_ ?_|refine AC.p0 (con71 ?_ ?_ ?_ ?_ ?_) ?_ ?_ ?_ ?_|refine AC.p0 (con72 ?_ ?_ ?_ ?_ ?_) ?_ ?_ ?_ ?_|refine AC.p0 (con74 ?_ ?_ ?_ ?_) ?_ ?_ ?_ ?_|refine AC.p0 (con80 ?_ ?_ ?_ ?_ ?_ ?_) ?_ ?_ ?_ ?_|refine AC.p0 (con83 ?_ ?_ ?_ ?_) ?_ ?_ ?_ ?_|refine AC.p0 (con79 ) ?_ (by simp -implicitDefEqProofs only [qU,pure_encZ]; done) ?_ ?_|refine AC.p0 (con52a ?_) ?_ (by simp -implicitDefEqProofs only [qU,pure_encZ]; done) ?_ ?_|refine AC.p0 (con77 ?_) ?_ (by simp -implicitDefEqProofs only [qU,pure_encZ]; done) ?_ ?_|refine AC.p0 (con69 ?_) ?_ (by simp -implicitDefEqProofs only [qU,pure_encZ]; done) ?_ ?_|refine AC.p0 (con81 ?_) ?_ (by simp -implicitDefEqProofs only [qU,pure_encZ]; done) ?_ ?_|refine P0 (con73) ?_ ?_ ?_|refine ACV.of (con73) ?_ ?_ ?_|refine ACK.of (con73) ?_ ?_|refine P0 (con84) ?_ ?_ ?_|refine ACV.of (con84) ?_ ?_ ?_|refine ACK.of (con84) ?_ ?_|refine P0 (con75) ?_ ?_ ?_|refine ACV.of (con75) ?_ ?_ ?_|refine ACK.of (con75) ?_ ?_|refine P0 (con82) ?_ ?_ ?_|refine ACV.of (con82) ?_ ?_ ?_|refine ACK.of (con82) ?_ ?_|simp -implicitDefEqProofs only [F21,qA,ld_0,ld_pv,st_0,doEqs,qU,List.reduceReplicate,Nat.reduceAdd,Nat.reduceSub,Nat.reduceLeDiff,Nat.reduceEqDiff,Nat.reduceMul,reduceIte,reduceCtorEq,qI,Nat.reduceLT,Nat.reduceBEq,up_s,Int.toNat_natCast,encT,qZ,splice_c,sp_word,sp_slots,sp_sends,sp_recvs,sp_full,sp_empty,sp_allZ,sp_allW,sp_allV,qC,encW,encV,Int.natCast_zero,ev_f,ev_e,hpc,hI,Int.reduceEq,Int.reduceNe, *]
  all_goals first
    | omega
    | exact Wk.refl _
    | exact ht
    | exact hr
    | (simp only [pures,AV.pure,pure_encZ,pure_encC7,Bool.and_true]; done)
    | exact ⟨h0,hlt⟩
    | exact h0
    | exact hlt
    | exact hT
    | exact h7
    | (rw [tell_len]; first | exact hT | exact hlt)
    | (simp only [withWord,withSlots,withSends,withRecvs,withFull,withEmpty,put1,List.length_set]; first | exact hT | exact h7 | exact hlt | omega)
    | trace_state

theorem con21_3 {s:State} {id:Int} (hb:Bd s 1000000) (hI:sIs s id=true) (hpc:(s.threads.getD id.toNat default).pc=3):Con Tryz.prog 21 [.agg (encZ s),.int .i64 id] (.agg (encZ (sWrite s id)),[],[]):=by
  have hb':=hb
  unfold Bd at hb'
  have hT:s.threads.length≤100000000:=by omega
  have h7:s.log.length≤100000000:=by omega
  have hI':=hI
  simp only [sIs,fabIs,Bool.and_eq_true,decide_eq_true_eq] at hI'
  obtain ⟨⟨⟨⟨hchk,h0⟩,hlt⟩,hr⟩,hside⟩:=hI'
  have ht:=tries_of hchk h0 hlt
  clear hchk hside
  refine mcb_of_vc mix x21 (by simp [F21]) fun hw _=>?_
  clear hw
  repeat' with_reducible first|refine gTn_of (fun h=>?_) (fun h=>?_)|refine gT_of (fun h=>?_) (fun h=>?_)|refine caseTn_of (fun h=>?_) (fun h=>?_)|refine caseT_of (fun h=>?_) (fun h=>?_)|refine FN ?_ ?_ ?_ ?_ rfl ?_|refine kv_ifn ?_ ?_|refine kv_if ?_ ?_|refine k_if ?_ ?_|refine IA ?_ ?_ ?_|refine L1 ?_ ?_|refine L2 ?_ ?_|refine L3 ?_ ?_ ?_ ?_|refine L4 ?_ ?_|refine L5 ?_ ?_ ?_ ?_ ?_|refine L6 ?_ ?_ ?_ ?_ ?_|refine ia_of (d:=default) ?_ ?_|refine ap_of (rw_slv _ _ _) (by simp -implicitDefEqProofs only [m_get,Nat.reduceEqDiff,reduceIte,if_true,if_false]; first|done|exact rfl) ?_ ?_ ?_ ?_|refine ap_of (rw_slm _ _ _ _ _ _ (by simp -implicitDefEqProofs only [m_get,Nat.reduceEqDiff,reduceIte,if_true,if_false]; first|done|exact rfl) ?_) (by simp -implicitDefEqProofs only [m_get,Nat.reduceEqDiff,reduceIte,if_true,if_false]; first|done|exact rfl) ?_ ?_ ?_ ?_|refine AC.p0 (con76s ?_ ?_ ?_) ?_ (by simp -implicitDefEqProofs only [qU,pure_encZ]; done) ?_ ?_|refine AC.p0 (con176s ?_ ?_) ?_ (by simp -implicitDefEqProofs only [qU,pure_encZ]; done) ?_ ?_|refine AC.p0 (con78s ?_) ?_ (by simp -implicitDefEqProofs only [qU,pure_encZ]; done) ?_ ?_|refine AC.p0 (con70 ?_ ?_ ?_) ?_ (by simp -implicitDefEqProofs only [qU,pure_encZ]; done) ?_ ?_|refine AC.p0 (con162 ?_ ?_ ?_) ?_ (by simp -implicitDefEqProofs only [qU,pure_encZ]; done) ?_ ?_|refine AC.p0 (con161 ?_ ?_ ?_ ?_) ?_ (by simp -implicitDefEqProofs only [qU,pure_encZ]; done) ?_ ?_|refine AC.p0 (con160 ?_ ?_ ?_ ?_) ?_ (by simp -implicitDefEqProofs only [qU,pure_encZ]; done) ?_ ?_|refine AC.p0 (con174s ?_) ?_ (by simp -implicitDefEqProofs only [qU,pure_encZ]; done) ?_ ?_|refine AC.p0 (con71 ?_ ?_ ?_ ?_ ?_) ?_ ?_ ?_ ?_|refine AC.p0 (con72 ?_ ?_ ?_ ?_ ?_) ?_ ?_ ?_ ?_|refine AC.p0 (con74 ?_ ?_ ?_ ?_) ?_ ?_ ?_ ?_|refine AC.p0 (con80 ?_ ?_ ?_ ?_ ?_ ?_) ?_ ?_ ?_ ?_|refine AC.p0 (con83 ?_ ?_ ?_ ?_) ?_ ?_ ?_ ?_|refine AC.p0 (con79 ) ?_ (by simp -implicitDefEqProofs only [qU,pure_encZ]; done) ?_ ?_|refine AC.p0 (con52a ?_) ?_ (by simp -implicitDefEqProofs only [qU,pure_encZ]; done) ?_ ?_|refine AC.p0 (con77 ?_) ?_ (by simp -implicitDefEqProofs only [qU,pure_encZ]; done) ?_ ?_|refine AC.p0 (con69 ?_) ?_ (by simp -implicitDefEqProofs only [qU,pure_encZ]; done) ?_ ?_|refine AC.p0 (con81 ?_) ?_ (by simp -implicitDefEqProofs only [qU,pure_encZ]; done) ?_ ?_|refine P0 (con73) ?_ ?_ ?_|refine ACV.of (con73) ?_ ?_ ?_|refine ACK.of (con73) ?_ ?_|refine P0 (con84) ?_ ?_ ?_|refine ACV.of (con84) ?_ ?_ ?_|refine ACK.of (con84) ?_ ?_|refine P0 (con75) ?_ ?_ ?_|refine ACV.of (con75) ?_ ?_ ?_|refine ACK.of (con75) ?_ ?_|refine P0 (con82) ?_ ?_ ?_|refine ACV.of (con82) ?_ ?_ ?_|refine ACK.of (con82) ?_ ?_|simp -implicitDefEqProofs only [F21,qA,ld_0,ld_pv,st_0,doEqs,qU,List.reduceReplicate,Nat.reduceAdd,Nat.reduceSub,Nat.reduceLeDiff,Nat.reduceEqDiff,Nat.reduceMul,reduceIte,reduceCtorEq,qI,Nat.reduceLT,Nat.reduceBEq,up_s,Int.toNat_natCast,encT,qZ,splice_c,sp_word,sp_slots,sp_sends,sp_recvs,sp_full,sp_empty,sp_allZ,sp_allW,sp_allV,qC,encW,encV,Int.natCast_zero,ev_f,ev_e,hpc,hI,Int.reduceEq,Int.reduceNe, *]
  all_goals first
    | omega
    | exact Wk.refl _
    | exact ht
    | exact hr
    | (simp only [pures,AV.pure,pure_encZ,pure_encC7,Bool.and_true]; done)
    | exact ⟨h0,hlt⟩
    | exact h0
    | exact hlt
    | exact hT
    | exact h7
    | (rw [tell_len]; first | exact hT | exact hlt)
    | (simp only [withWord,withSlots,withSends,withRecvs,withFull,withEmpty,put1,List.length_set]; first | exact hT | exact h7 | exact hlt | omega)
    | (refine Wk.of_eq ?_; unfold sWrite; rw [if_pos (show (slotWrite s.slots (me s id).reg (me s id).val).2=0 from of_decide_eq_true (by assumption))]; first | done | rfl)
    | (refine Wk.of_eq ?_; unfold sWrite; rw [if_neg (show ¬ (slotWrite s.slots (me s id).reg (me s id).val).2=0 from of_decide_eq_false (by assumption))]; first | done | rfl)
    | trace_state

theorem con21_4 {s:State} {id:Int} (hb:Bd s 1000000) (hI:sIs s id=true) (hpc:(s.threads.getD id.toNat default).pc=4):Con Tryz.prog 21 [.agg (encZ s),.int .i64 id] (.agg (encZ (sAccept s id)),[],[]):=by
  have hb':=hb
  unfold Bd at hb'
  have hT:s.threads.length≤100000000:=by omega
  have h7:s.log.length≤100000000:=by omega
  have hI':=hI
  simp only [sIs,fabIs,Bool.and_eq_true,decide_eq_true_eq] at hI'
  obtain ⟨⟨⟨⟨hchk,h0⟩,hlt⟩,hr⟩,hside⟩:=hI'
  have ht:=tries_of hchk h0 hlt
  clear hchk hside
  refine mcb_of_vc mix x21 (by simp [F21]) fun hw _=>?_
  clear hw
  repeat' with_reducible first|refine gTn_of (fun h=>?_) (fun h=>?_)|refine gT_of (fun h=>?_) (fun h=>?_)|refine caseTn_of (fun h=>?_) (fun h=>?_)|refine caseT_of (fun h=>?_) (fun h=>?_)|refine FN ?_ ?_ ?_ ?_ rfl ?_|refine kv_ifn ?_ ?_|refine kv_if ?_ ?_|refine k_if ?_ ?_|refine IA ?_ ?_ ?_|refine L1 ?_ ?_|refine L2 ?_ ?_|refine L3 ?_ ?_ ?_ ?_|refine L4 ?_ ?_|refine L5 ?_ ?_ ?_ ?_ ?_|refine L6 ?_ ?_ ?_ ?_ ?_|refine ia_of (d:=default) ?_ ?_|refine ap_of (rw_slv _ _ _) (by simp -implicitDefEqProofs only [m_get,Nat.reduceEqDiff,reduceIte,if_true,if_false]; first|done|exact rfl) ?_ ?_ ?_ ?_|refine ap_of (rw_slm _ _ _ _ _ _ (by simp -implicitDefEqProofs only [m_get,Nat.reduceEqDiff,reduceIte,if_true,if_false]; first|done|exact rfl) ?_) (by simp -implicitDefEqProofs only [m_get,Nat.reduceEqDiff,reduceIte,if_true,if_false]; first|done|exact rfl) ?_ ?_ ?_ ?_|refine AC.p0 (con76s ?_ ?_ ?_) ?_ (by simp -implicitDefEqProofs only [qU,pure_encZ]; done) ?_ ?_|refine AC.p0 (con176s ?_ ?_) ?_ (by simp -implicitDefEqProofs only [qU,pure_encZ]; done) ?_ ?_|refine AC.p0 (con78s ?_) ?_ (by simp -implicitDefEqProofs only [qU,pure_encZ]; done) ?_ ?_|refine AC.p0 (con70 ?_ ?_ ?_) ?_ (by simp -implicitDefEqProofs only [qU,pure_encZ]; done) ?_ ?_|refine AC.p0 (con162 ?_ ?_ ?_) ?_ (by simp -implicitDefEqProofs only [qU,pure_encZ]; done) ?_ ?_|refine AC.p0 (con161 ?_ ?_ ?_ ?_) ?_ (by simp -implicitDefEqProofs only [qU,pure_encZ]; done) ?_ ?_|refine AC.p0 (con160 ?_ ?_ ?_ ?_) ?_ (by simp -implicitDefEqProofs only [qU,pure_encZ]; done) ?_ ?_|refine AC.p0 (con174s ?_) ?_ (by simp -implicitDefEqProofs only [qU,pure_encZ]; done) ?_ ?_|refine AC.p0 (con71 ?_ ?_ ?_ ?_ ?_) ?_ ?_ ?_ ?_|refine AC.p0 (con72 ?_ ?_ ?_ ?_ ?_) ?_ ?_ ?_ ?_|refine AC.p0 (con74 ?_ ?_ ?_ ?_) ?_ ?_ ?_ ?_|refine AC.p0 (con80 ?_ ?_ ?_ ?_ ?_ ?_) ?_ ?_ ?_ ?_|refine AC.p0 (con83 ?_ ?_ ?_ ?_) ?_ ?_ ?_ ?_|refine AC.p0 (con79 ) ?_ (by simp -implicitDefEqProofs only [qU,pure_encZ]; done) ?_ ?_|refine AC.p0 (con52a ?_) ?_ (by simp -implicitDefEqProofs only [qU,pure_encZ]; done) ?_ ?_|refine AC.p0 (con77 ?_) ?_ (by simp -implicitDefEqProofs only [qU,pure_encZ]; done) ?_ ?_|refine AC.p0 (con69 ?_) ?_ (by simp -implicitDefEqProofs only [qU,pure_encZ]; done) ?_ ?_|refine AC.p0 (con81 ?_) ?_ (by simp -implicitDefEqProofs only [qU,pure_encZ]; done) ?_ ?_|refine P0 (con73) ?_ ?_ ?_|refine ACV.of (con73) ?_ ?_ ?_|refine ACK.of (con73) ?_ ?_|refine P0 (con84) ?_ ?_ ?_|refine ACV.of (con84) ?_ ?_ ?_|refine ACK.of (con84) ?_ ?_|refine P0 (con75) ?_ ?_ ?_|refine ACV.of (con75) ?_ ?_ ?_|refine ACK.of (con75) ?_ ?_|refine P0 (con82) ?_ ?_ ?_|refine ACV.of (con82) ?_ ?_ ?_|refine ACK.of (con82) ?_ ?_|simp -implicitDefEqProofs only [F21,qA,ld_0,ld_pv,st_0,doEqs,qU,List.reduceReplicate,Nat.reduceAdd,Nat.reduceSub,Nat.reduceLeDiff,Nat.reduceEqDiff,Nat.reduceMul,reduceIte,reduceCtorEq,qI,Nat.reduceLT,Nat.reduceBEq,up_s,Int.toNat_natCast,encT,qZ,splice_c,sp_word,sp_slots,sp_sends,sp_recvs,sp_full,sp_empty,sp_allZ,sp_allW,sp_allV,qC,encW,encV,Int.natCast_zero,ev_f,ev_e,hpc,hI,Int.reduceEq,Int.reduceNe, *]
  all_goals first
    | omega
    | exact Wk.refl _
    | exact ht
    | exact hr
    | (simp only [pures,AV.pure,pure_encZ,pure_encC7,Bool.and_true]; done)
    | exact ⟨h0,hlt⟩
    | exact h0
    | exact hlt
    | exact hT
    | exact h7
    | (rw [tell_len]; first | exact hT | exact hlt)
    | (simp only [withWord,withSlots,withSends,withRecvs,withFull,withEmpty,put1,List.length_set]; first | exact hT | exact h7 | exact hlt | omega)
    | trace_state

theorem con21_5 {s:State} {id:Int} (hb:Bd s 1000000) (hI:sIs s id=true) (hpc:(s.threads.getD id.toNat default).pc=5):Con Tryz.prog 21 [.agg (encZ s),.int .i64 id] (.agg (encZ (sPrepare s id)),[],[]):=by
  have hb':=hb
  unfold Bd at hb'
  have hT:s.threads.length≤100000000:=by omega
  have h7:s.log.length≤100000000:=by omega
  have hI':=hI
  simp only [sIs,fabIs,Bool.and_eq_true,decide_eq_true_eq] at hI'
  obtain ⟨⟨⟨⟨hchk,h0⟩,hlt⟩,hr⟩,hside⟩:=hI'
  have ht:=tries_of hchk h0 hlt
  clear hchk hside
  refine mcb_of_vc mix x21 (by simp [F21]) fun hw _=>?_
  clear hw
  repeat' with_reducible first|refine gTn_of (fun h=>?_) (fun h=>?_)|refine gT_of (fun h=>?_) (fun h=>?_)|refine caseTn_of (fun h=>?_) (fun h=>?_)|refine caseT_of (fun h=>?_) (fun h=>?_)|refine FN ?_ ?_ ?_ ?_ rfl ?_|refine kv_ifn ?_ ?_|refine kv_if ?_ ?_|refine k_if ?_ ?_|refine IA ?_ ?_ ?_|refine L1 ?_ ?_|refine L2 ?_ ?_|refine L3 ?_ ?_ ?_ ?_|refine L4 ?_ ?_|refine L5 ?_ ?_ ?_ ?_ ?_|refine L6 ?_ ?_ ?_ ?_ ?_|refine ia_of (d:=default) ?_ ?_|refine ap_of (rw_slv _ _ _) (by simp -implicitDefEqProofs only [m_get,Nat.reduceEqDiff,reduceIte,if_true,if_false]; first|done|exact rfl) ?_ ?_ ?_ ?_|refine ap_of (rw_slm _ _ _ _ _ _ (by simp -implicitDefEqProofs only [m_get,Nat.reduceEqDiff,reduceIte,if_true,if_false]; first|done|exact rfl) ?_) (by simp -implicitDefEqProofs only [m_get,Nat.reduceEqDiff,reduceIte,if_true,if_false]; first|done|exact rfl) ?_ ?_ ?_ ?_|refine AC.p0 (con76s ?_ ?_ ?_) ?_ (by simp -implicitDefEqProofs only [qU,pure_encZ]; done) ?_ ?_|refine AC.p0 (con176s ?_ ?_) ?_ (by simp -implicitDefEqProofs only [qU,pure_encZ]; done) ?_ ?_|refine AC.p0 (con78s ?_) ?_ (by simp -implicitDefEqProofs only [qU,pure_encZ]; done) ?_ ?_|refine AC.p0 (con70 ?_ ?_ ?_) ?_ (by simp -implicitDefEqProofs only [qU,pure_encZ]; done) ?_ ?_|refine AC.p0 (con162 ?_ ?_ ?_) ?_ (by simp -implicitDefEqProofs only [qU,pure_encZ]; done) ?_ ?_|refine AC.p0 (con161 ?_ ?_ ?_ ?_) ?_ (by simp -implicitDefEqProofs only [qU,pure_encZ]; done) ?_ ?_|refine AC.p0 (con160 ?_ ?_ ?_ ?_) ?_ (by simp -implicitDefEqProofs only [qU,pure_encZ]; done) ?_ ?_|refine AC.p0 (con174s ?_) ?_ (by simp -implicitDefEqProofs only [qU,pure_encZ]; done) ?_ ?_|refine AC.p0 (con71 ?_ ?_ ?_ ?_ ?_) ?_ ?_ ?_ ?_|refine AC.p0 (con72 ?_ ?_ ?_ ?_ ?_) ?_ ?_ ?_ ?_|refine AC.p0 (con74 ?_ ?_ ?_ ?_) ?_ ?_ ?_ ?_|refine AC.p0 (con80 ?_ ?_ ?_ ?_ ?_ ?_) ?_ ?_ ?_ ?_|refine AC.p0 (con83 ?_ ?_ ?_ ?_) ?_ ?_ ?_ ?_|refine AC.p0 (con79 ) ?_ (by simp -implicitDefEqProofs only [qU,pure_encZ]; done) ?_ ?_|refine AC.p0 (con52a ?_) ?_ (by simp -implicitDefEqProofs only [qU,pure_encZ]; done) ?_ ?_|refine AC.p0 (con77 ?_) ?_ (by simp -implicitDefEqProofs only [qU,pure_encZ]; done) ?_ ?_|refine AC.p0 (con69 ?_) ?_ (by simp -implicitDefEqProofs only [qU,pure_encZ]; done) ?_ ?_|refine AC.p0 (con81 ?_) ?_ (by simp -implicitDefEqProofs only [qU,pure_encZ]; done) ?_ ?_|refine P0 (con73) ?_ ?_ ?_|refine ACV.of (con73) ?_ ?_ ?_|refine ACK.of (con73) ?_ ?_|refine P0 (con84) ?_ ?_ ?_|refine ACV.of (con84) ?_ ?_ ?_|refine ACK.of (con84) ?_ ?_|refine P0 (con75) ?_ ?_ ?_|refine ACV.of (con75) ?_ ?_ ?_|refine ACK.of (con75) ?_ ?_|refine P0 (con82) ?_ ?_ ?_|refine ACV.of (con82) ?_ ?_ ?_|refine ACK.of (con82) ?_ ?_|simp -implicitDefEqProofs only [F21,qA,ld_0,ld_pv,st_0,doEqs,qU,List.reduceReplicate,Nat.reduceAdd,Nat.reduceSub,Nat.reduceLeDiff,Nat.reduceEqDiff,Nat.reduceMul,reduceIte,reduceCtorEq,qI,Nat.reduceLT,Nat.reduceBEq,up_s,Int.toNat_natCast,encT,qZ,splice_c,sp_word,sp_slots,sp_sends,sp_recvs,sp_full,sp_empty,sp_allZ,sp_allW,sp_allV,qC,encW,encV,Int.natCast_zero,ev_f,ev_e,hpc,hI,Int.reduceEq,Int.reduceNe, *]
  all_goals first
    | omega
    | exact Wk.refl _
    | exact ht
    | exact hr
    | (simp only [pures,AV.pure,pure_encZ,pure_encC7,Bool.and_true]; done)
    | exact ⟨h0,hlt⟩
    | exact h0
    | exact hlt
    | exact hT
    | exact h7
    | (rw [tell_len]; first | exact hT | exact hlt)
    | (simp only [withWord,withSlots,withSends,withRecvs,withFull,withEmpty,put1,List.length_set]; first | exact hT | exact h7 | exact hlt | omega)
    | (have hid:id.toNat<s.threads.length:=by omega
       refine Wk.of_eq ?_; unfold sPrepare; simp only [rAt,put1,me,getD_set_same hid,set_set]; rfl)
    | trace_state

theorem con21_6 {s:State} {id:Int} (hb:Bd s 1000000) (hI:sIs s id=true) (hpc:(s.threads.getD id.toNat default).pc=6):Con Tryz.prog 21 [.agg (encZ s),.int .i64 id] (.agg (encZ (sNotify s id)),[],[]):=by
  have hb':=hb
  unfold Bd at hb'
  have hT:s.threads.length≤100000000:=by omega
  have h7:s.log.length≤100000000:=by omega
  have hI':=hI
  simp only [sIs,fabIs,Bool.and_eq_true,decide_eq_true_eq] at hI'
  obtain ⟨⟨⟨⟨hchk,h0⟩,hlt⟩,hr⟩,hside⟩:=hI'
  have ht:=tries_of hchk h0 hlt
  clear hchk hside
  have hRE:Rn (withEmpty s (vNotify s.empty).1) id:=by
    have hR:Rn s id:=rn_of (by simp only [sIs,Bool.and_eq_true] at hI; exact hI.1.1) hr
    have hn:=vn_ok hR.fab.empty hR.fab.el
    exact hR.em hn.2 hn.1
  refine mcb_of_vc mix x21 (by simp [F21]) fun hw _=>?_
  clear hw
  repeat' with_reducible first|refine gTn_of (fun h=>?_) (fun h=>?_)|refine gT_of (fun h=>?_) (fun h=>?_)|refine caseTn_of (fun h=>?_) (fun h=>?_)|refine caseT_of (fun h=>?_) (fun h=>?_)|refine FN ?_ ?_ ?_ ?_ rfl ?_|refine kv_ifn ?_ ?_|refine kv_if ?_ ?_|refine k_if ?_ ?_|refine IA ?_ ?_ ?_|refine L1 ?_ ?_|refine L2 ?_ ?_|refine L3 ?_ ?_ ?_ ?_|refine L4 ?_ ?_|refine L5 ?_ ?_ ?_ ?_ ?_|refine L6 ?_ ?_ ?_ ?_ ?_|refine ia_of (d:=default) ?_ ?_|refine ap_of (rw_slv _ _ _) (by simp -implicitDefEqProofs only [m_get,Nat.reduceEqDiff,reduceIte,if_true,if_false]; first|done|exact rfl) ?_ ?_ ?_ ?_|refine ap_of (rw_slm _ _ _ _ _ _ (by simp -implicitDefEqProofs only [m_get,Nat.reduceEqDiff,reduceIte,if_true,if_false]; first|done|exact rfl) ?_) (by simp -implicitDefEqProofs only [m_get,Nat.reduceEqDiff,reduceIte,if_true,if_false]; first|done|exact rfl) ?_ ?_ ?_ ?_|refine AC.p0 (con76s ?_ ?_ ?_) ?_ (by simp -implicitDefEqProofs only [qU,pure_encZ]; done) ?_ ?_|refine AC.p0 (con176s ?_ ?_) ?_ (by simp -implicitDefEqProofs only [qU,pure_encZ]; done) ?_ ?_|refine AC.p0 (con78s ?_) ?_ (by simp -implicitDefEqProofs only [qU,pure_encZ]; done) ?_ ?_|refine AC.p0 (con70 ?_ ?_ ?_) ?_ (by simp -implicitDefEqProofs only [qU,pure_encZ]; done) ?_ ?_|refine AC.p0 (con162 ?_ ?_ ?_) ?_ (by simp -implicitDefEqProofs only [qU,pure_encZ]; done) ?_ ?_|refine AC.p0 (con161 ?_ ?_ ?_ ?_) ?_ (by simp -implicitDefEqProofs only [qU,pure_encZ]; done) ?_ ?_|refine AC.p0 (con160 ?_ ?_ ?_ ?_) ?_ (by simp -implicitDefEqProofs only [qU,pure_encZ]; done) ?_ ?_|refine AC.p0 (con174s ?_) ?_ (by simp -implicitDefEqProofs only [qU,pure_encZ]; done) ?_ ?_|refine AC.p0 (con71 ?_ ?_ ?_ ?_ ?_) ?_ ?_ ?_ ?_|refine AC.p0 (con72 ?_ ?_ ?_ ?_ ?_) ?_ ?_ ?_ ?_|refine AC.p0 (con74 ?_ ?_ ?_ ?_) ?_ ?_ ?_ ?_|refine AC.p0 (con80 ?_ ?_ ?_ ?_ ?_ ?_) ?_ ?_ ?_ ?_|refine AC.p0 (con83 ?_ ?_ ?_ ?_) ?_ ?_ ?_ ?_|refine AC.p0 (con79 ) ?_ (by simp -implicitDefEqProofs only [qU,pure_encZ]; done) ?_ ?_|refine AC.p0 (con52a ?_) ?_ (by simp -implicitDefEqProofs only [qU,pure_encZ]; done) ?_ ?_|refine AC.p0 (con77 ?_) ?_ (by simp -implicitDefEqProofs only [qU,pure_encZ]; done) ?_ ?_|refine AC.p0 (con69 ?_) ?_ (by simp -implicitDefEqProofs only [qU,pure_encZ]; done) ?_ ?_|refine AC.p0 (con81 ?_) ?_ (by simp -implicitDefEqProofs only [qU,pure_encZ]; done) ?_ ?_|refine P0 (con73) ?_ ?_ ?_|refine ACV.of (con73) ?_ ?_ ?_|refine ACK.of (con73) ?_ ?_|refine P0 (con84) ?_ ?_ ?_|refine ACV.of (con84) ?_ ?_ ?_|refine ACK.of (con84) ?_ ?_|refine P0 (con75) ?_ ?_ ?_|refine ACV.of (con75) ?_ ?_ ?_|refine ACK.of (con75) ?_ ?_|refine P0 (con82) ?_ ?_ ?_|refine ACV.of (con82) ?_ ?_ ?_|refine ACK.of (con82) ?_ ?_|simp -implicitDefEqProofs only [F21,qA,ld_0,ld_pv,st_0,doEqs,qU,List.reduceReplicate,Nat.reduceAdd,Nat.reduceSub,Nat.reduceLeDiff,Nat.reduceEqDiff,Nat.reduceMul,reduceIte,reduceCtorEq,qI,Nat.reduceLT,Nat.reduceBEq,up_s,Int.toNat_natCast,encT,qZ,splice_c,sp_word,sp_slots,sp_sends,sp_recvs,sp_full,sp_empty,sp_allZ,sp_allW,sp_allV,qC,encW,encV,Int.natCast_zero,ev_f,ev_e,hpc,hI,Int.reduceEq,Int.reduceNe, *]
  all_goals first
    | omega
    | exact Wk.refl _
    | exact ht
    | exact hr
    | (simp only [pures,AV.pure,pure_encZ,pure_encC7,Bool.and_true]; done)
    | exact ⟨h0,hlt⟩
    | exact h0
    | exact hlt
    | exact hT
    | exact h7
    | (rw [tell_len]; first | exact hT | exact hlt)
    | (simp only [withWord,withSlots,withSends,withRecvs,withFull,withEmpty,put1,List.length_set]; first | exact hT | exact h7 | exact hlt | omega)
    | (unfold rAt put1; simp only [List.length_set]; exact hT)
    | (have h8:(vNotify s.empty).2.2=true:=(by assumption:(vNotify ⟨s.empty.ep,s.empty.ln⟩).2.2=true)
       refine Wk.of_eq ?_; unfold sNotify; simp only []; rw [if_pos h8,← wake_at hRE (by decide) (by decide)]; first | done | rfl)
    | (have h8:(vNotify s.empty).2.2=false:=(by assumption:(vNotify ⟨s.empty.ep,s.empty.ln⟩).2.2=false)
       refine Wk.of_eq ?_; unfold sNotify; simp only []; rw [if_neg (by simp [h8])]; first | done | rfl)
    | trace_state

theorem con21_7 {s:State} {id:Int} (hb:Bd s 1000000) (hI:sIs s id=true) (hpc:(s.threads.getD id.toNat default).pc=7):Con Tryz.prog 21 [.agg (encZ s),.int .i64 id] (.agg (encZ (sAgain s id)),[],[]):=by
  have hb':=hb
  unfold Bd at hb'
  have hT:s.threads.length≤100000000:=by omega
  have h7:s.log.length≤100000000:=by omega
  have hI':=hI
  simp only [sIs,fabIs,Bool.and_eq_true,decide_eq_true_eq] at hI'
  obtain ⟨⟨⟨⟨hchk,h0⟩,hlt⟩,hr⟩,hside⟩:=hI'
  have ht:=tries_of hchk h0 hlt
  clear hchk hside
  refine mcb_of_vc mix x21 (by simp [F21]) fun hw _=>?_
  clear hw
  repeat' with_reducible first|refine gTn_of (fun h=>?_) (fun h=>?_)|refine gT_of (fun h=>?_) (fun h=>?_)|refine caseTn_of (fun h=>?_) (fun h=>?_)|refine caseT_of (fun h=>?_) (fun h=>?_)|refine FN ?_ ?_ ?_ ?_ rfl ?_|refine kv_ifn ?_ ?_|refine kv_if ?_ ?_|refine k_if ?_ ?_|refine IA ?_ ?_ ?_|refine L1 ?_ ?_|refine L2 ?_ ?_|refine L3 ?_ ?_ ?_ ?_|refine L4 ?_ ?_|refine L5 ?_ ?_ ?_ ?_ ?_|refine L6 ?_ ?_ ?_ ?_ ?_|refine ia_of (d:=default) ?_ ?_|refine ap_of (rw_slv _ _ _) (by simp -implicitDefEqProofs only [m_get,Nat.reduceEqDiff,reduceIte,if_true,if_false]; first|done|exact rfl) ?_ ?_ ?_ ?_|refine ap_of (rw_slm _ _ _ _ _ _ (by simp -implicitDefEqProofs only [m_get,Nat.reduceEqDiff,reduceIte,if_true,if_false]; first|done|exact rfl) ?_) (by simp -implicitDefEqProofs only [m_get,Nat.reduceEqDiff,reduceIte,if_true,if_false]; first|done|exact rfl) ?_ ?_ ?_ ?_|refine AC.p0 (con76s ?_ ?_ ?_) ?_ (by simp -implicitDefEqProofs only [qU,pure_encZ]; done) ?_ ?_|refine AC.p0 (con176s ?_ ?_) ?_ (by simp -implicitDefEqProofs only [qU,pure_encZ]; done) ?_ ?_|refine AC.p0 (con78s ?_) ?_ (by simp -implicitDefEqProofs only [qU,pure_encZ]; done) ?_ ?_|refine AC.p0 (con70 ?_ ?_ ?_) ?_ (by simp -implicitDefEqProofs only [qU,pure_encZ]; done) ?_ ?_|refine AC.p0 (con162 ?_ ?_ ?_) ?_ (by simp -implicitDefEqProofs only [qU,pure_encZ]; done) ?_ ?_|refine AC.p0 (con161 ?_ ?_ ?_ ?_) ?_ (by simp -implicitDefEqProofs only [qU,pure_encZ]; done) ?_ ?_|refine AC.p0 (con160 ?_ ?_ ?_ ?_) ?_ (by simp -implicitDefEqProofs only [qU,pure_encZ]; done) ?_ ?_|refine AC.p0 (con174s ?_) ?_ (by simp -implicitDefEqProofs only [qU,pure_encZ]; done) ?_ ?_|refine AC.p0 (con71 ?_ ?_ ?_ ?_ ?_) ?_ ?_ ?_ ?_|refine AC.p0 (con72 ?_ ?_ ?_ ?_ ?_) ?_ ?_ ?_ ?_|refine AC.p0 (con74 ?_ ?_ ?_ ?_) ?_ ?_ ?_ ?_|refine AC.p0 (con80 ?_ ?_ ?_ ?_ ?_ ?_) ?_ ?_ ?_ ?_|refine AC.p0 (con83 ?_ ?_ ?_ ?_) ?_ ?_ ?_ ?_|refine AC.p0 (con79 ) ?_ (by simp -implicitDefEqProofs only [qU,pure_encZ]; done) ?_ ?_|refine AC.p0 (con52a ?_) ?_ (by simp -implicitDefEqProofs only [qU,pure_encZ]; done) ?_ ?_|refine AC.p0 (con77 ?_) ?_ (by simp -implicitDefEqProofs only [qU,pure_encZ]; done) ?_ ?_|refine AC.p0 (con69 ?_) ?_ (by simp -implicitDefEqProofs only [qU,pure_encZ]; done) ?_ ?_|refine AC.p0 (con81 ?_) ?_ (by simp -implicitDefEqProofs only [qU,pure_encZ]; done) ?_ ?_|refine P0 (con73) ?_ ?_ ?_|refine ACV.of (con73) ?_ ?_ ?_|refine ACK.of (con73) ?_ ?_|refine P0 (con84) ?_ ?_ ?_|refine ACV.of (con84) ?_ ?_ ?_|refine ACK.of (con84) ?_ ?_|refine P0 (con75) ?_ ?_ ?_|refine ACV.of (con75) ?_ ?_ ?_|refine ACK.of (con75) ?_ ?_|refine P0 (con82) ?_ ?_ ?_|refine ACV.of (con82) ?_ ?_ ?_|refine ACK.of (con82) ?_ ?_|simp -implicitDefEqProofs only [F21,qA,ld_0,ld_pv,st_0,doEqs,qU,List.reduceReplicate,Nat.reduceAdd,Nat.reduceSub,Nat.reduceLeDiff,Nat.reduceEqDiff,Nat.reduceMul,reduceIte,reduceCtorEq,qI,Nat.reduceLT,Nat.reduceBEq,up_s,Int.toNat_natCast,encT,qZ,splice_c,sp_word,sp_slots,sp_sends,sp_recvs,sp_full,sp_empty,sp_allZ,sp_allW,sp_allV,qC,encW,encV,Int.natCast_zero,ev_f,ev_e,hpc,hI,Int.reduceEq,Int.reduceNe, *]
  all_goals first
    | omega
    | exact Wk.refl _
    | exact ht
    | exact hr
    | (simp only [pures,AV.pure,pure_encZ,pure_encC7,Bool.and_true]; done)
    | exact ⟨h0,hlt⟩
    | exact h0
    | exact hlt
    | exact hT
    | exact h7
    | (rw [tell_len]; first | exact hT | exact hlt)
    | (simp only [withWord,withSlots,withSends,withRecvs,withFull,withEmpty,put1,List.length_set]; first | exact hT | exact h7 | exact hlt | omega)
    | (have h8:(me s id).late=false:=(by assumption:(s.threads.getD id.toNat default).late=false)
       refine Wk.of_eq ?_; unfold sAgain; rw [if_pos ⟨(show (wSees s.word s.slots.length).1=2 from of_decide_eq_true (by assumption)),by simp [h8]⟩]; first | done | rfl)
    | (have h8:(me s id).late=true:=(by assumption:(s.threads.getD id.toNat default).late=true)
       refine Wk.of_eq ?_; unfold sAgain; rw [if_neg (fun h9=>h9.2 h8)]; first | done | rfl)
    | (refine Wk.of_eq ?_; unfold sAgain; rw [if_neg (fun h9=>(show ¬ (wSees s.word s.slots.length).1=2 from of_decide_eq_false (by assumption)) h9.1)]; first | done | rfl)
    | trace_state

theorem con21_8 {s:State} {id:Int} (hb:Bd s 1000000) (hI:sIs s id=true) (hpc:(s.threads.getD id.toNat default).pc=8):Con Tryz.prog 21 [.agg (encZ s),.int .i64 id] (.agg (encZ (sCommit s id)),[],[]):=by
  have hb':=hb
  unfold Bd at hb'
  have hT:s.threads.length≤100000000:=by omega
  have h7:s.log.length≤100000000:=by omega
  have hI':=hI
  simp only [sIs,fabIs,Bool.and_eq_true,decide_eq_true_eq] at hI'
  obtain ⟨⟨⟨⟨hchk,h0⟩,hlt⟩,hr⟩,hside⟩:=hI'
  have ht:=tries_of hchk h0 hlt
  clear hchk hside
  refine mcb_of_vc mix x21 (by simp [F21]) fun hw _=>?_
  clear hw
  repeat' with_reducible first|refine gTn_of (fun h=>?_) (fun h=>?_)|refine gT_of (fun h=>?_) (fun h=>?_)|refine caseTn_of (fun h=>?_) (fun h=>?_)|refine caseT_of (fun h=>?_) (fun h=>?_)|refine FN ?_ ?_ ?_ ?_ rfl ?_|refine kv_ifn ?_ ?_|refine kv_if ?_ ?_|refine k_if ?_ ?_|refine IA ?_ ?_ ?_|refine L1 ?_ ?_|refine L2 ?_ ?_|refine L3 ?_ ?_ ?_ ?_|refine L4 ?_ ?_|refine L5 ?_ ?_ ?_ ?_ ?_|refine L6 ?_ ?_ ?_ ?_ ?_|refine ia_of (d:=default) ?_ ?_|refine ap_of (rw_slv _ _ _) (by simp -implicitDefEqProofs only [m_get,Nat.reduceEqDiff,reduceIte,if_true,if_false]; first|done|exact rfl) ?_ ?_ ?_ ?_|refine ap_of (rw_slm _ _ _ _ _ _ (by simp -implicitDefEqProofs only [m_get,Nat.reduceEqDiff,reduceIte,if_true,if_false]; first|done|exact rfl) ?_) (by simp -implicitDefEqProofs only [m_get,Nat.reduceEqDiff,reduceIte,if_true,if_false]; first|done|exact rfl) ?_ ?_ ?_ ?_|refine AC.p0 (con76s ?_ ?_ ?_) ?_ (by simp -implicitDefEqProofs only [qU,pure_encZ]; done) ?_ ?_|refine AC.p0 (con176s ?_ ?_) ?_ (by simp -implicitDefEqProofs only [qU,pure_encZ]; done) ?_ ?_|refine AC.p0 (con78s ?_) ?_ (by simp -implicitDefEqProofs only [qU,pure_encZ]; done) ?_ ?_|refine AC.p0 (con70 ?_ ?_ ?_) ?_ (by simp -implicitDefEqProofs only [qU,pure_encZ]; done) ?_ ?_|refine AC.p0 (con162 ?_ ?_ ?_) ?_ (by simp -implicitDefEqProofs only [qU,pure_encZ]; done) ?_ ?_|refine AC.p0 (con161 ?_ ?_ ?_ ?_) ?_ (by simp -implicitDefEqProofs only [qU,pure_encZ]; done) ?_ ?_|refine AC.p0 (con160 ?_ ?_ ?_ ?_) ?_ (by simp -implicitDefEqProofs only [qU,pure_encZ]; done) ?_ ?_|refine AC.p0 (con174s ?_) ?_ (by simp -implicitDefEqProofs only [qU,pure_encZ]; done) ?_ ?_|refine AC.p0 (con71 ?_ ?_ ?_ ?_ ?_) ?_ ?_ ?_ ?_|refine AC.p0 (con72 ?_ ?_ ?_ ?_ ?_) ?_ ?_ ?_ ?_|refine AC.p0 (con74 ?_ ?_ ?_ ?_) ?_ ?_ ?_ ?_|refine AC.p0 (con80 ?_ ?_ ?_ ?_ ?_ ?_) ?_ ?_ ?_ ?_|refine AC.p0 (con83 ?_ ?_ ?_ ?_) ?_ ?_ ?_ ?_|refine AC.p0 (con79 ) ?_ (by simp -implicitDefEqProofs only [qU,pure_encZ]; done) ?_ ?_|refine AC.p0 (con52a ?_) ?_ (by simp -implicitDefEqProofs only [qU,pure_encZ]; done) ?_ ?_|refine AC.p0 (con77 ?_) ?_ (by simp -implicitDefEqProofs only [qU,pure_encZ]; done) ?_ ?_|refine AC.p0 (con69 ?_) ?_ (by simp -implicitDefEqProofs only [qU,pure_encZ]; done) ?_ ?_|refine AC.p0 (con81 ?_) ?_ (by simp -implicitDefEqProofs only [qU,pure_encZ]; done) ?_ ?_|refine P0 (con73) ?_ ?_ ?_|refine ACV.of (con73) ?_ ?_ ?_|refine ACK.of (con73) ?_ ?_|refine P0 (con84) ?_ ?_ ?_|refine ACV.of (con84) ?_ ?_ ?_|refine ACK.of (con84) ?_ ?_|refine P0 (con75) ?_ ?_ ?_|refine ACV.of (con75) ?_ ?_ ?_|refine ACK.of (con75) ?_ ?_|refine P0 (con82) ?_ ?_ ?_|refine ACV.of (con82) ?_ ?_ ?_|refine ACK.of (con82) ?_ ?_|simp -implicitDefEqProofs only [F21,qA,ld_0,ld_pv,st_0,doEqs,qU,List.reduceReplicate,Nat.reduceAdd,Nat.reduceSub,Nat.reduceLeDiff,Nat.reduceEqDiff,Nat.reduceMul,reduceIte,reduceCtorEq,qI,Nat.reduceLT,Nat.reduceBEq,up_s,Int.toNat_natCast,encT,qZ,splice_c,sp_word,sp_slots,sp_sends,sp_recvs,sp_full,sp_empty,sp_allZ,sp_allW,sp_allV,qC,encW,encV,Int.natCast_zero,ev_f,ev_e,hpc,hI,Int.reduceEq,Int.reduceNe, *]
  all_goals first
    | omega
    | exact Wk.refl _
    | exact ht
    | exact hr
    | (simp only [pures,AV.pure,pure_encZ,pure_encC7,Bool.and_true]; done)
    | exact ⟨h0,hlt⟩
    | exact h0
    | exact hlt
    | exact hT
    | exact h7
    | (rw [tell_len]; first | exact hT | exact hlt)
    | (simp only [withWord,withSlots,withSends,withRecvs,withFull,withEmpty,put1,List.length_set]; first | exact hT | exact h7 | exact hlt | omega)
    | trace_state

theorem con21_9 {s:State} {id:Int} (hb:Bd s 1000000) (hI:sIs s id=true) (hpc:(s.threads.getD id.toNat default).pc=9):Con Tryz.prog 21 [.agg (encZ s),.int .i64 id] (.agg (encZ (sLeave s id)),[],[]):=by
  have hb':=hb
  unfold Bd at hb'
  have hT:s.threads.length≤100000000:=by omega
  have h7:s.log.length≤100000000:=by omega
  have hI':=hI
  simp only [sIs,fabIs,Bool.and_eq_true,decide_eq_true_eq] at hI'
  obtain ⟨⟨⟨⟨hchk,h0⟩,hlt⟩,hr⟩,hside⟩:=hI'
  have ht:=tries_of hchk h0 hlt
  clear hchk hside
  refine mcb_of_vc mix x21 (by simp [F21]) fun hw _=>?_
  clear hw
  repeat' with_reducible first|refine gTn_of (fun h=>?_) (fun h=>?_)|refine gT_of (fun h=>?_) (fun h=>?_)|refine caseTn_of (fun h=>?_) (fun h=>?_)|refine caseT_of (fun h=>?_) (fun h=>?_)|refine FN ?_ ?_ ?_ ?_ rfl ?_|refine kv_ifn ?_ ?_|refine kv_if ?_ ?_|refine k_if ?_ ?_|refine IA ?_ ?_ ?_|refine L1 ?_ ?_|refine L2 ?_ ?_|refine L3 ?_ ?_ ?_ ?_|refine L4 ?_ ?_|refine L5 ?_ ?_ ?_ ?_ ?_|refine L6 ?_ ?_ ?_ ?_ ?_|refine ia_of (d:=default) ?_ ?_|refine ap_of (rw_slv _ _ _) (by simp -implicitDefEqProofs only [m_get,Nat.reduceEqDiff,reduceIte,if_true,if_false]; first|done|exact rfl) ?_ ?_ ?_ ?_|refine ap_of (rw_slm _ _ _ _ _ _ (by simp -implicitDefEqProofs only [m_get,Nat.reduceEqDiff,reduceIte,if_true,if_false]; first|done|exact rfl) ?_) (by simp -implicitDefEqProofs only [m_get,Nat.reduceEqDiff,reduceIte,if_true,if_false]; first|done|exact rfl) ?_ ?_ ?_ ?_|refine AC.p0 (con76s ?_ ?_ ?_) ?_ (by simp -implicitDefEqProofs only [qU,pure_encZ]; done) ?_ ?_|refine AC.p0 (con176s ?_ ?_) ?_ (by simp -implicitDefEqProofs only [qU,pure_encZ]; done) ?_ ?_|refine AC.p0 (con78s ?_) ?_ (by simp -implicitDefEqProofs only [qU,pure_encZ]; done) ?_ ?_|refine AC.p0 (con70 ?_ ?_ ?_) ?_ (by simp -implicitDefEqProofs only [qU,pure_encZ]; done) ?_ ?_|refine AC.p0 (con162 ?_ ?_ ?_) ?_ (by simp -implicitDefEqProofs only [qU,pure_encZ]; done) ?_ ?_|refine AC.p0 (con161 ?_ ?_ ?_ ?_) ?_ (by simp -implicitDefEqProofs only [qU,pure_encZ]; done) ?_ ?_|refine AC.p0 (con160 ?_ ?_ ?_ ?_) ?_ (by simp -implicitDefEqProofs only [qU,pure_encZ]; done) ?_ ?_|refine AC.p0 (con174s ?_) ?_ (by simp -implicitDefEqProofs only [qU,pure_encZ]; done) ?_ ?_|refine AC.p0 (con71 ?_ ?_ ?_ ?_ ?_) ?_ ?_ ?_ ?_|refine AC.p0 (con72 ?_ ?_ ?_ ?_ ?_) ?_ ?_ ?_ ?_|refine AC.p0 (con74 ?_ ?_ ?_ ?_) ?_ ?_ ?_ ?_|refine AC.p0 (con80 ?_ ?_ ?_ ?_ ?_ ?_) ?_ ?_ ?_ ?_|refine AC.p0 (con83 ?_ ?_ ?_ ?_) ?_ ?_ ?_ ?_|refine AC.p0 (con79 ) ?_ (by simp -implicitDefEqProofs only [qU,pure_encZ]; done) ?_ ?_|refine AC.p0 (con52a ?_) ?_ (by simp -implicitDefEqProofs only [qU,pure_encZ]; done) ?_ ?_|refine AC.p0 (con77 ?_) ?_ (by simp -implicitDefEqProofs only [qU,pure_encZ]; done) ?_ ?_|refine AC.p0 (con69 ?_) ?_ (by simp -implicitDefEqProofs only [qU,pure_encZ]; done) ?_ ?_|refine AC.p0 (con81 ?_) ?_ (by simp -implicitDefEqProofs only [qU,pure_encZ]; done) ?_ ?_|refine P0 (con73) ?_ ?_ ?_|refine ACV.of (con73) ?_ ?_ ?_|refine ACK.of (con73) ?_ ?_|refine P0 (con84) ?_ ?_ ?_|refine ACV.of (con84) ?_ ?_ ?_|refine ACK.of (con84) ?_ ?_|refine P0 (con75) ?_ ?_ ?_|refine ACV.of (con75) ?_ ?_ ?_|refine ACK.of (con75) ?_ ?_|refine P0 (con82) ?_ ?_ ?_|refine ACV.of (con82) ?_ ?_ ?_|refine ACK.of (con82) ?_ ?_|simp -implicitDefEqProofs only [F21,qA,ld_0,ld_pv,st_0,doEqs,qU,List.reduceReplicate,Nat.reduceAdd,Nat.reduceSub,Nat.reduceLeDiff,Nat.reduceEqDiff,Nat.reduceMul,reduceIte,reduceCtorEq,qI,Nat.reduceLT,Nat.reduceBEq,up_s,Int.toNat_natCast,encT,qZ,splice_c,sp_word,sp_slots,sp_sends,sp_recvs,sp_full,sp_empty,sp_allZ,sp_allW,sp_allV,qC,encW,encV,Int.natCast_zero,ev_f,ev_e,hpc,hI,Int.reduceEq,Int.reduceNe, *]
  all_goals first
    | omega
    | exact Wk.refl _
    | exact ht
    | exact hr
    | (simp only [pures,AV.pure,pure_encZ,pure_encC7,Bool.and_true]; done)
    | exact ⟨h0,hlt⟩
    | exact h0
    | exact hlt
    | exact hT
    | exact h7
    | (rw [tell_len]; first | exact hT | exact hlt)
    | (simp only [withWord,withSlots,withSends,withRecvs,withFull,withEmpty,put1,List.length_set]; first | exact hT | exact h7 | exact hlt | omega)
    | (refine Wk.of_eq ?_
       show AV.agg (encZ (put1 (withSends s (lLeave s.sends id).1) id (tDone ⟨(s.threads.getD id.toNat default).st,(s.threads.getD id.toNat default).kind,(s.threads.getD id.toNat default).val,(s.threads.getD id.toNat default).untl,9,(s.threads.getD id.toNat default).reg,(s.threads.getD id.toNat default).seen,(s.threads.getD id.toNat default).tries,(s.threads.getD id.toNat default).late,(s.threads.getD id.toNat default).res,(s.threads.getD id.toNat default).got⟩).1))=_
       rw [thr_pc hpc]
       rfl)
    | trace_state

theorem con21_10 {s:State} {id:Int} (hb:Bd s 1000000) (hI:sIs s id=true) (hpc:(s.threads.getD id.toNat default).pc=10):Con Tryz.prog 21 [.agg (encZ s),.int .i64 id] (.agg (encZ (sEvict s id)),[],[]):=by
  have hb':=hb
  unfold Bd at hb'
  have hT:s.threads.length≤100000000:=by omega
  have h7:s.log.length≤100000000:=by omega
  have hI':=hI
  simp only [sIs,fabIs,Bool.and_eq_true,decide_eq_true_eq] at hI'
  obtain ⟨⟨⟨⟨hchk,h0⟩,hlt⟩,hr⟩,hside⟩:=hI'
  have ht:=tries_of hchk h0 hlt
  clear hchk hside
  refine mcb_of_vc mix x21 (by simp [F21]) fun hw _=>?_
  clear hw
  repeat' with_reducible first|refine gTn_of (fun h=>?_) (fun h=>?_)|refine gT_of (fun h=>?_) (fun h=>?_)|refine caseTn_of (fun h=>?_) (fun h=>?_)|refine caseT_of (fun h=>?_) (fun h=>?_)|refine FN ?_ ?_ ?_ ?_ rfl ?_|refine kv_ifn ?_ ?_|refine kv_if ?_ ?_|refine k_if ?_ ?_|refine IA ?_ ?_ ?_|refine L1 ?_ ?_|refine L2 ?_ ?_|refine L3 ?_ ?_ ?_ ?_|refine L4 ?_ ?_|refine L5 ?_ ?_ ?_ ?_ ?_|refine L6 ?_ ?_ ?_ ?_ ?_|refine ia_of (d:=default) ?_ ?_|refine ap_of (rw_slv _ _ _) (by simp -implicitDefEqProofs only [m_get,Nat.reduceEqDiff,reduceIte,if_true,if_false]; first|done|exact rfl) ?_ ?_ ?_ ?_|refine ap_of (rw_slm _ _ _ _ _ _ (by simp -implicitDefEqProofs only [m_get,Nat.reduceEqDiff,reduceIte,if_true,if_false]; first|done|exact rfl) ?_) (by simp -implicitDefEqProofs only [m_get,Nat.reduceEqDiff,reduceIte,if_true,if_false]; first|done|exact rfl) ?_ ?_ ?_ ?_|refine AC.p0 (con76s ?_ ?_ ?_) ?_ (by simp -implicitDefEqProofs only [qU,pure_encZ]; done) ?_ ?_|refine AC.p0 (con176s ?_ ?_) ?_ (by simp -implicitDefEqProofs only [qU,pure_encZ]; done) ?_ ?_|refine AC.p0 (con78s ?_) ?_ (by simp -implicitDefEqProofs only [qU,pure_encZ]; done) ?_ ?_|refine AC.p0 (con70 ?_ ?_ ?_) ?_ (by simp -implicitDefEqProofs only [qU,pure_encZ]; done) ?_ ?_|refine AC.p0 (con162 ?_ ?_ ?_) ?_ (by simp -implicitDefEqProofs only [qU,pure_encZ]; done) ?_ ?_|refine AC.p0 (con161 ?_ ?_ ?_ ?_) ?_ (by simp -implicitDefEqProofs only [qU,pure_encZ]; done) ?_ ?_|refine AC.p0 (con160 ?_ ?_ ?_ ?_) ?_ (by simp -implicitDefEqProofs only [qU,pure_encZ]; done) ?_ ?_|refine AC.p0 (con174s ?_) ?_ (by simp -implicitDefEqProofs only [qU,pure_encZ]; done) ?_ ?_|refine AC.p0 (con71 ?_ ?_ ?_ ?_ ?_) ?_ ?_ ?_ ?_|refine AC.p0 (con72 ?_ ?_ ?_ ?_ ?_) ?_ ?_ ?_ ?_|refine AC.p0 (con74 ?_ ?_ ?_ ?_) ?_ ?_ ?_ ?_|refine AC.p0 (con80 ?_ ?_ ?_ ?_ ?_ ?_) ?_ ?_ ?_ ?_|refine AC.p0 (con83 ?_ ?_ ?_ ?_) ?_ ?_ ?_ ?_|refine AC.p0 (con79 ) ?_ (by simp -implicitDefEqProofs only [qU,pure_encZ]; done) ?_ ?_|refine AC.p0 (con52a ?_) ?_ (by simp -implicitDefEqProofs only [qU,pure_encZ]; done) ?_ ?_|refine AC.p0 (con77 ?_) ?_ (by simp -implicitDefEqProofs only [qU,pure_encZ]; done) ?_ ?_|refine AC.p0 (con69 ?_) ?_ (by simp -implicitDefEqProofs only [qU,pure_encZ]; done) ?_ ?_|refine AC.p0 (con81 ?_) ?_ (by simp -implicitDefEqProofs only [qU,pure_encZ]; done) ?_ ?_|refine P0 (con73) ?_ ?_ ?_|refine ACV.of (con73) ?_ ?_ ?_|refine ACK.of (con73) ?_ ?_|refine P0 (con84) ?_ ?_ ?_|refine ACV.of (con84) ?_ ?_ ?_|refine ACK.of (con84) ?_ ?_|refine P0 (con75) ?_ ?_ ?_|refine ACV.of (con75) ?_ ?_ ?_|refine ACK.of (con75) ?_ ?_|refine P0 (con82) ?_ ?_ ?_|refine ACV.of (con82) ?_ ?_ ?_|refine ACK.of (con82) ?_ ?_|simp -implicitDefEqProofs only [F21,qA,ld_0,ld_pv,st_0,doEqs,qU,List.reduceReplicate,Nat.reduceAdd,Nat.reduceSub,Nat.reduceLeDiff,Nat.reduceEqDiff,Nat.reduceMul,reduceIte,reduceCtorEq,qI,Nat.reduceLT,Nat.reduceBEq,up_s,Int.toNat_natCast,encT,qZ,splice_c,sp_word,sp_slots,sp_sends,sp_recvs,sp_full,sp_empty,sp_allZ,sp_allW,sp_allV,qC,encW,encV,Int.natCast_zero,ev_f,ev_e,hpc,hI,Int.reduceEq,Int.reduceNe, *]
  all_goals first
    | omega
    | exact Wk.refl _
    | exact ht
    | exact hr
    | (simp only [pures,AV.pure,pure_encZ,pure_encC7,Bool.and_true]; done)
    | exact ⟨h0,hlt⟩
    | exact h0
    | exact hlt
    | exact hT
    | exact h7
    | (rw [tell_len]; first | exact hT | exact hlt)
    | (simp only [withWord,withSlots,withSends,withRecvs,withFull,withEmpty,put1,List.length_set]; first | exact hT | exact h7 | exact hlt | omega)
    | trace_state

theorem con21_11 {s:State} {id:Int} (hb:Bd s 1000000) (hI:sIs s id=true) (hpc:(s.threads.getD id.toNat default).pc=11):Con Tryz.prog 21 [.agg (encZ s),.int .i64 id] (.agg (encZ (sRelease s id)),[],[]):=by
  have hb':=hb
  unfold Bd at hb'
  have hT:s.threads.length≤100000000:=by omega
  have h7:s.log.length≤100000000:=by omega
  have hI':=hI
  simp only [sIs,fabIs,Bool.and_eq_true,decide_eq_true_eq] at hI'
  obtain ⟨⟨⟨⟨hchk,h0⟩,hlt⟩,hr⟩,hside⟩:=hI'
  have ht:=tries_of hchk h0 hlt
  clear hchk hside
  refine mcb_of_vc mix x21 (by simp [F21]) fun hw _=>?_
  clear hw
  repeat' with_reducible first|refine gTn_of (fun h=>?_) (fun h=>?_)|refine gT_of (fun h=>?_) (fun h=>?_)|refine caseTn_of (fun h=>?_) (fun h=>?_)|refine caseT_of (fun h=>?_) (fun h=>?_)|refine FN ?_ ?_ ?_ ?_ rfl ?_|refine kv_ifn ?_ ?_|refine kv_if ?_ ?_|refine k_if ?_ ?_|refine IA ?_ ?_ ?_|refine L1 ?_ ?_|refine L2 ?_ ?_|refine L3 ?_ ?_ ?_ ?_|refine L4 ?_ ?_|refine L5 ?_ ?_ ?_ ?_ ?_|refine L6 ?_ ?_ ?_ ?_ ?_|refine ia_of (d:=default) ?_ ?_|refine ap_of (rw_slv _ _ _) (by simp -implicitDefEqProofs only [m_get,Nat.reduceEqDiff,reduceIte,if_true,if_false]; first|done|exact rfl) ?_ ?_ ?_ ?_|refine ap_of (rw_slm _ _ _ _ _ _ (by simp -implicitDefEqProofs only [m_get,Nat.reduceEqDiff,reduceIte,if_true,if_false]; first|done|exact rfl) ?_) (by simp -implicitDefEqProofs only [m_get,Nat.reduceEqDiff,reduceIte,if_true,if_false]; first|done|exact rfl) ?_ ?_ ?_ ?_|refine AC.p0 (con76s ?_ ?_ ?_) ?_ (by simp -implicitDefEqProofs only [qU,pure_encZ]; done) ?_ ?_|refine AC.p0 (con176s ?_ ?_) ?_ (by simp -implicitDefEqProofs only [qU,pure_encZ]; done) ?_ ?_|refine AC.p0 (con78s ?_) ?_ (by simp -implicitDefEqProofs only [qU,pure_encZ]; done) ?_ ?_|refine AC.p0 (con70 ?_ ?_ ?_) ?_ (by simp -implicitDefEqProofs only [qU,pure_encZ]; done) ?_ ?_|refine AC.p0 (con162 ?_ ?_ ?_) ?_ (by simp -implicitDefEqProofs only [qU,pure_encZ]; done) ?_ ?_|refine AC.p0 (con161 ?_ ?_ ?_ ?_) ?_ (by simp -implicitDefEqProofs only [qU,pure_encZ]; done) ?_ ?_|refine AC.p0 (con160 ?_ ?_ ?_ ?_) ?_ (by simp -implicitDefEqProofs only [qU,pure_encZ]; done) ?_ ?_|refine AC.p0 (con174s ?_) ?_ (by simp -implicitDefEqProofs only [qU,pure_encZ]; done) ?_ ?_|refine AC.p0 (con71 ?_ ?_ ?_ ?_ ?_) ?_ ?_ ?_ ?_|refine AC.p0 (con72 ?_ ?_ ?_ ?_ ?_) ?_ ?_ ?_ ?_|refine AC.p0 (con74 ?_ ?_ ?_ ?_) ?_ ?_ ?_ ?_|refine AC.p0 (con80 ?_ ?_ ?_ ?_ ?_ ?_) ?_ ?_ ?_ ?_|refine AC.p0 (con83 ?_ ?_ ?_ ?_) ?_ ?_ ?_ ?_|refine AC.p0 (con79 ) ?_ (by simp -implicitDefEqProofs only [qU,pure_encZ]; done) ?_ ?_|refine AC.p0 (con52a ?_) ?_ (by simp -implicitDefEqProofs only [qU,pure_encZ]; done) ?_ ?_|refine AC.p0 (con77 ?_) ?_ (by simp -implicitDefEqProofs only [qU,pure_encZ]; done) ?_ ?_|refine AC.p0 (con69 ?_) ?_ (by simp -implicitDefEqProofs only [qU,pure_encZ]; done) ?_ ?_|refine AC.p0 (con81 ?_) ?_ (by simp -implicitDefEqProofs only [qU,pure_encZ]; done) ?_ ?_|refine P0 (con73) ?_ ?_ ?_|refine ACV.of (con73) ?_ ?_ ?_|refine ACK.of (con73) ?_ ?_|refine P0 (con84) ?_ ?_ ?_|refine ACV.of (con84) ?_ ?_ ?_|refine ACK.of (con84) ?_ ?_|refine P0 (con75) ?_ ?_ ?_|refine ACV.of (con75) ?_ ?_ ?_|refine ACK.of (con75) ?_ ?_|refine P0 (con82) ?_ ?_ ?_|refine ACV.of (con82) ?_ ?_ ?_|refine ACK.of (con82) ?_ ?_|simp -implicitDefEqProofs only [F21,qA,ld_0,ld_pv,st_0,doEqs,qU,List.reduceReplicate,Nat.reduceAdd,Nat.reduceSub,Nat.reduceLeDiff,Nat.reduceEqDiff,Nat.reduceMul,reduceIte,reduceCtorEq,qI,Nat.reduceLT,Nat.reduceBEq,up_s,Int.toNat_natCast,encT,qZ,splice_c,sp_word,sp_slots,sp_sends,sp_recvs,sp_full,sp_empty,sp_allZ,sp_allW,sp_allV,qC,encW,encV,Int.natCast_zero,ev_f,ev_e,hpc,hI,Int.reduceEq,Int.reduceNe, *]
  all_goals first
    | omega
    | exact Wk.refl _
    | exact ht
    | exact hr
    | (simp only [pures,AV.pure,pure_encZ,pure_encC7,Bool.and_true]; done)
    | exact ⟨h0,hlt⟩
    | exact h0
    | exact hlt
    | exact hT
    | exact h7
    | (rw [tell_len]; first | exact hT | exact hlt)
    | (simp only [withWord,withSlots,withSends,withRecvs,withFull,withEmpty,put1,List.length_set]; first | exact hT | exact h7 | exact hlt | omega)
    | (refine Wk.of_eq ?_; unfold sRelease; rw [if_pos (show (slotRelease s.slots (me s id).reg).2=0 from of_decide_eq_true (by assumption))]; first | done | rfl)
    | (refine Wk.of_eq ?_; unfold sRelease; rw [if_neg (show ¬ (slotRelease s.slots (me s id).reg).2=0 from of_decide_eq_false (by assumption))]; first | done | rfl)
    | trace_state

end Go.Sak
