/- Part S128 of the proofs about the program: Pg, K234. Conditions: none. -/
import Derived.Test.YtahdilehajdhgaaGreatS03
import Derived.Test.YtahdilehajdhgaaGreatS125
import Derived.Test.YtahdilehajdhgaaGreatS04
import Derived.Test.YtahdilehajdhgaaGreatProg
import Derived.KernelRfl
namespace Go.Sak
open Go Go.RowKit
set_option linter.unusedVariables false
set_option linter.unusedSimpArgs false
theorem k_11 {k:Int} (h:1≤k∧k≤11):k=1∨k=2∨k=3∨k=4∨k=5∨k=6∨k=7∨k=8∨k=9∨k=10∨k=11:=by omega
theorem kinds_1 {k t:Int} (h:1≤k∧k≤11) (ht:0≤t∧t≤15) (h0:k=11→t=0):(cCheck ⟨k,t,0,0⟩=0)=(¬ k=9):=by
  rcases k_11 h with rfl | rfl | rfl | rfl | rfl | rfl | rfl | rfl | rfl | rfl | rfl <;>
    simp [cCheck,cBare,opSide,opTimed,opCheck,cTime] <;> omega
theorem kinds_2 {k t:Int} (ht:16≤t):cCheck ⟨k,t,0,0⟩=190:=by
  unfold cCheck
  exact if_pos (.inr (.inr (.inr ht)))
theorem kinds_3 {k t v:Int} (h:1≤k∧k≤11) (ht:0≤t∧t≤15) (h0:k=11→t=0) (hv:1≤v∧v≤4294967296):(cCheck ⟨k,t,v,0⟩=0)=(k≤3∨k=11):=by
  rcases k_11 h with rfl | rfl | rfl | rfl | rfl | rfl | rfl | rfl | rfl | rfl | rfl <;>
    simp [cCheck,cBare,opSide,opTimed,opCheck,cTime] <;> omega
theorem kinds_4 {k t v:Int} (h:1≤k∧k≤11) (ht:0≤t∧t≤15) (h0:k=11→t=0) (hv:1≤v∧v≤4294967296):(cCheck ⟨k,t,0,v⟩=0)=(k=3∨k=6):=by
  rcases k_11 h with rfl | rfl | rfl | rfl | rfl | rfl | rfl | rfl | rfl | rfl | rfl <;>
    simp [cCheck,cBare,opSide,opTimed,opCheck,cTime] <;> omega
theorem back_1 {x:Cal}:cDecode (cEncode x)=if cCheck x≠0 then (⟨0,0,0,0⟩,cCheck x) else (x,0):=rfl
theorem back_2 {l:List Int} (h:¬ (cDecode l).2=0):(cDecode l).1=⟨0,0,0,0⟩:=by
  unfold cDecode at h ⊢
  split
  · rfl
  · rename_i h1
    rw [if_neg h1] at h
    split
    · rfl
    · rename_i h2; rw [if_neg h2] at h; exact absurd rfl h
theorem back_3 {l:List Int} (h:(cDecode l).2=0):cEncode (cDecode l).1=l∧cCheck (cDecode l).1=0∧l.length=4:=by
  unfold cDecode at h ⊢
  split at h
  · cases h
  · rename_i h1
    rw [if_neg h1]
    split at h
    · rename_i h2; exact absurd h h2
    · rename_i h2
      rw [if_neg h2]
      have h4:l.length=4:=Classical.not_not.1 h1
      refine ⟨?_,Classical.not_not.1 h2,h4⟩
      match l,h4 with
      | [a,b,c,d],_=>rfl
end Go.Sak
namespace Go.Sak
open Go Go.RowKit Go.Proofs
set_option linter.unusedVariables false
set_option linter.unusedSimpArgs false
set_option maxRecDepth 10000
set_option maxHeartbeats 8000000
def F12:AFn:=⟨83,(.seq (.reg [o1 6 (.mv (.const (.bool false)))]) (.seq (.reg [o1 15 (.call 22 []),o1 7 (.mv 15)]) (.seq (.reg [o1 16 (.mv 0),o1 17 (.bin .rem 16 (.const (.int .u8 11))),o1 18 (.conv .i64 17),o1 19 (.bin .add (ci 1) 18),o1 8 (.mv 19)]) (.seq (.reg [o1 20 (.mv 8),o1 21 (.mv 1),o1 22 (.conv .i64 21),o1 23 (.bin .rem 22 (ci 16)),o1 24 (.build [(.int .i64 0),(.int .i64 0),(.int .i64 0),(.int .i64 0)] [(0,1,20),(1,1,23)]),o1 9 (.alloc 54 [(.int .i64 0),(.int .i64 0),(.int .i64 0),(.int .i64 0)]),o2 (.st 4 9 24)]) (.seq (.seq (.reg [o1 25 (.mv 8),o1 26 (.bin .eql 25 (ci 11))]) (.cond 26 (.reg [o1 27 (.faddr 1 9),o2 (.st 1 27 (ci 0))]) .skip)) (.seq (.reg [o1 28 (.ld 4 true 9),o1 10 (.alloc 54 [(.int .i64 0),(.int .i64 0),(.int .i64 0),(.int .i64 0)]),o2 (.st 4 10 28)]) (.seq (.reg [o1 29 (.mv 1),o1 30 (.conv .i64 29),o1 31 (.bin .add (ci 16) 30),o1 32 (.faddr 1 10),o2 (.st 1 32 31)]) (.seq (.reg [o1 33 (.ld 4 true 9),o1 11 (.alloc 54 [(.int .i64 0),(.int .i64 0),(.int .i64 0),(.int .i64 0)]),o2 (.st 4 11 33)]) (.seq (.reg [o1 34 (.mv 2),o1 35 (.conv .i64 34),o1 36 (.bin .add (ci 1) 35),o1 37 (.faddr 2 11),o2 (.st 1 37 36)]) (.seq (.reg [o1 38 (.ld 4 true 9),o1 12 (.alloc 54 [(.int .i64 0),(.int .i64 0),(.int .i64 0),(.int .i64 0)]),o2 (.st 4 12 38)]) (.seq (.reg [o1 39 (.mv 2),o1 40 (.conv .i64 39),o1 41 (.bin .add (ci 1) 40),o1 42 (.faddr 3 12),o2 (.st 1 42 41)]) (.seq (.reg [o1 43 (.mv 8),o1 44 (.bin .leq 43 (ci 3)),o1 13 (.mv 44)]) (.seq (.reg [o1 45 (.mv 8),o1 46 (.bin .eql 45 (ci 3)),o1 47 (.mv 46),o4 48 (.mv 8) 47,o4 49 (.bin .eql 48 (ci 6)) 47,o1 50 (.pick 47 (.const (.bool true)) 49),o1 14 (.mv 50)]) (.seq (.reg [o1 51 (.mv 7),o1 52 (.mv 51),o3 53 (.ld 4 true 9) 52,o3 54 (.call 27 [53]) 52,o3 55 (.bin .eql 54 (ci 0)) 52,o3 56 (.mv 8) 52,o3 57 (.bin .neq 56 (ci 9)) 52,o3 58 (.eqb false 55 57) 52,o1 59 (.pick 52 58 (.const (.bool false))),o1 60 (.mv 59),o3 61 (.ld 4 true 10) 60,o3 62 (.call 27 [61]) 60,o3 63 (.bin .eql 62 (ci 190)) 60,o1 64 (.pick 60 63 (.const (.bool false))),o1 65 (.mv 64),o3 66 (.ld 4 true 11) 65,o3 67 (.call 27 [66]) 65,o3 68 (.bin .eql 67 (ci 0)) 65,o3 69 (.mv 13) 65,o3 70 (.mv 69) 65,o4 71 (.mv 8) 70,o4 72 (.bin .eql 71 (ci 11)) 70,o3 73 (.pick 70 (.const (.bool true)) 72) 65,o3 74 (.eqb false 68 73) 65,o1 75 (.pick 65 74 (.const (.bool false))),o1 76 (.mv 75),o3 77 (.ld 4 true 12) 76,o3 78 (.call 27 [77]) 76,o3 79 (.bin .eql 78 (ci 0)) 76,o3 80 (.mv 14) 76,o3 81 (.eqb false 79 80) 76,o1 82 (.pick 76 81 (.const (.bool false))),o1 6 (.mv 82)]) .ret)))))))))))))),[(6,none)]⟩
theorem x12:xf Tryz.prog 12=some F12:=by kernel_rfl
theorem con12 {kd i m:Int} (hA:Con Tryz.prog 22 [] (.bool true,[],[])) (h1:0≤kd∧kd≤255) (h2:0≤i∧i≤255) (h3:0≤m∧m≤4294967295):Con Tryz.prog 12 [.int .u8 kd,.int .u8 i,.int .u32 m] (.bool true,[],[]):=by
  have hr:=Int.emod_nonneg kd (b:=11) (by decide)
  have hr2:=Int.emod_lt_of_pos kd (b:=11) (by decide)
  have ht:=Int.emod_nonneg i (b:=16) (by decide)
  have ht2:=Int.emod_lt_of_pos i (b:=16) (by decide)
  rw [← Int.tmod_eq_emod_of_nonneg h1.1] at hr hr2
  rw [← Int.tmod_eq_emod_of_nonneg h2.1] at ht ht2
  obtain ⟨k,hk⟩:∃ k,1+kd.tmod 11=k:=⟨_,rfl⟩
  obtain ⟨t,htt⟩:∃ t,i.tmod 16=t:=⟨_,rfl⟩
  have w1:IntKind.wrap .i64 (kd.tmod 11)=kd.tmod 11:=wrap64 (by omega) (by omega)
  have w2:IntKind.wrap .i64 (1+kd.tmod 11)=k:=by rw [← hk]; exact wrap64 (by omega) (by omega)
  have w3:IntKind.wrap .i64 i=i:=wrap64 (by omega) (by omega)
  have w4:IntKind.wrap .i64 (16+i)=16+i:=wrap64 (by omega) (by omega)
  have w5:IntKind.wrap .i64 m=m:=wrap64 (by omega) (by omega)
  have w6:IntKind.wrap .i64 (1+m)=1+m:=wrap64 (by omega) (by omega)
  have hK:1≤k∧k≤11:=by omega
  have hT:0≤t∧t≤15:=by omega
  have q2:=@kinds_2 k (16+i) (by omega)
  clear hr hr2 ht ht2
  by_cases h11:k=11
  · have q1:=@kinds_1 k 0 hK (by omega) (fun _=>rfl)
    have q3:=@kinds_3 k 0 (1+m) hK (by omega) (fun _=>rfl) (by omega)
    have q4:=@kinds_4 k 0 (1+m) hK (by omega) (fun _=>rfl) (by omega)
    clear hK hT h1 h2 h3 hk
    subst h11
    refine mcb_of_vc mix x12 (by simp [F12]) fun hw _=>?_
    clear hw
    repeat' with_reducible first|refine gTn_of (fun h=>?_) (fun h=>?_)|refine gT_of (fun h=>?_) (fun h=>?_)|refine caseTn_of (fun h=>?_) (fun h=>?_)|refine caseT_of (fun h=>?_) (fun h=>?_)|refine FN ?_ ?_ ?_ ?_ rfl ?_|refine kv_ifn ?_ ?_|refine kv_if ?_ ?_|refine k_if ?_ ?_|refine IA ?_ ?_ ?_|refine L1 ?_ ?_|refine L2 ?_ ?_|refine L3 ?_ ?_ ?_ ?_|refine L4 ?_ ?_|refine L5 ?_ ?_ ?_ ?_ ?_|refine L6 ?_ ?_ ?_ ?_ ?_|refine AC.p0 hA ?_ (by simp -implicitDefEqProofs only [qU]; done) ?_ ?_|refine P0 con27 ?_ ?_ ?_|simp -implicitDefEqProofs only [F12,qA,ld_0,ld_pv,st_0,splice,doEqs,qU,List.reduceReplicate,Nat.reduceAdd,Nat.reduceSub,Nat.reduceLeDiff,Nat.reduceEqDiff,Nat.reduceMul,reduceIte,reduceCtorEq,qI,Nat.reduceLT,Nat.reduceBEq,up_s,Int.toNat_natCast,encT,Int.reduceEq,Int.reduceNe,doConv,doLd,Int.natCast_zero, *]
    all_goals first
      | exact Wk.refl _
      | omega
      | (simp; done)
      | (refine Wk.of_eq ?_; simp_all; done)
      | (exfalso; clear hA; simp_all; done)
      | trace_state
  · have q1:=@kinds_1 k t hK hT (fun e=>absurd e h11)
    have q3:=@kinds_3 k t (1+m) hK hT (fun e=>absurd e h11) (by omega)
    have q4:=@kinds_4 k t (1+m) hK hT (fun e=>absurd e h11) (by omega)
    have e11:(k=11)=False:=by simpa using h11
    clear hK hT h1 h2 h3 hk h11
    refine mcb_of_vc mix x12 (by simp [F12]) fun hw _=>?_
    clear hw
    repeat' with_reducible first|refine gTn_of (fun h=>?_) (fun h=>?_)|refine gT_of (fun h=>?_) (fun h=>?_)|refine caseTn_of (fun h=>?_) (fun h=>?_)|refine caseT_of (fun h=>?_) (fun h=>?_)|refine FN ?_ ?_ ?_ ?_ rfl ?_|refine kv_ifn ?_ ?_|refine kv_if ?_ ?_|refine k_if ?_ ?_|refine IA ?_ ?_ ?_|refine L1 ?_ ?_|refine L2 ?_ ?_|refine L3 ?_ ?_ ?_ ?_|refine L4 ?_ ?_|refine L5 ?_ ?_ ?_ ?_ ?_|refine L6 ?_ ?_ ?_ ?_ ?_|refine AC.p0 hA ?_ (by simp -implicitDefEqProofs only [qU]; done) ?_ ?_|refine P0 con27 ?_ ?_ ?_|simp -implicitDefEqProofs only [F12,qA,ld_0,ld_pv,st_0,splice,doEqs,qU,List.reduceReplicate,Nat.reduceAdd,Nat.reduceSub,Nat.reduceLeDiff,Nat.reduceEqDiff,Nat.reduceMul,reduceIte,reduceCtorEq,qI,Nat.reduceLT,Nat.reduceBEq,up_s,Int.toNat_natCast,encT,Int.reduceEq,Int.reduceNe,doConv,doLd,Int.natCast_zero, *]
    all_goals first
      | exact Wk.refl _
      | omega
      | (simp; done)
      | (refine Wk.of_eq ?_; simp_all; done)
      | (exfalso; clear hA; simp_all; done)
      | trace_state

end Go.Sak
