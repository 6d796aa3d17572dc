/- Part S16 of the proofs about the program: K8, K9, K10, K11, K12, K13, K14. Conditions: none. -/
import Derived.Test.YtahdilehajdhgaaGreatS13
import Derived.Test.YtahdilehajdhgaaGreatS03
import Derived.Test.YtahdilehajdhgaaGreatS15
import Derived.Test.YtahdilehajdhgaaGreatS04
import Derived.Test.YtahdilehajdhgaaGreatProg
import Derived.KernelRfl
namespace Go.Sak
open Go Go.RowKit Go.Proofs
set_option linter.unusedVariables false
set_option linter.unusedSimpArgs false
set_option maxRecDepth 10000
set_option maxHeartbeats 8000000
def F78:AFn:=⟨32,(.seq (.reg [o1 3 (.box 23 0),o1 6 (.mv (ci 0))]) (.seq (.block 0 (.seq (.reg [o1 8 (.mv 1),o1 9 (.bin .lss 8 (ci 0)),o1 10 (.mv 9),o4 11 (.mv 1) 10,o4 12 (.faddr 1 3) 10,o4 13 (.ld 1 false 12) 10,o4 14 (.bin .geq 11 13) 10,o1 15 (.pick 10 (.const (.bool true)) 14),o1 7 (.mv 15)]) (.cond 7 (.seq (.reg [o1 6 (.mv (ci 123))]) .ret) (.seq (.reg [o1 17 (.mv 2),o1 18 (.call 65 [17]),o1 19 (.not 18),o1 16 (.mv 19)]) (.cond 16 (.seq (.reg [o1 6 (.mv (ci 190))]) .ret) (.seq (.reg [o1 21 (.faddr 6 3),o1 22 (.ld 1 false 21),o1 23 (.mv 22),o3 24 (.mv 2) 23,o3 25 (.call 75 [24]) 23,o3 26 (.bin .eql 25 (ci 2)) 23,o1 27 (.pick 23 26 (.const (.bool false))),o1 28 (.mv 27),o3 29 (.mv 1) 28,o3 30 (.bin .gtr 29 (ci 0)) 28,o1 31 (.pick 28 30 (.const (.bool false))),o1 20 (.mv 31)]) (.cond 20 (.seq (.reg [o1 6 (.mv (ci 123))]) .ret) .skip))))))) (.seq (.reg [o1 6 (.mv (ci 0))]) .ret))),[(6,none)]⟩
theorem x78:xf Tryz.prog 78=some F78:=by kernel_rfl
theorem i_shl (k:IntKind) (x y:Int):binI .shl k x y=if y<0 then none else some (.int k (k.wrap (x * 2 ^ (min y.toNat k.bits)))):=rfl
theorem conf_lg {c:Config} (h:confCheck c=0):1≤c.lg∧c.lg≤6:=by
  unfold confCheck at h
  split at h
  · rename_i hc; simp [confOk,within] at hc; omega
  · cases h
theorem conf_shl {c:Config} (h:confCheck c=0):IntKind.wrap .i64 (1 * 2 ^ (min c.lg.toNat (IntKind.bits .i64)))=confRoom c:=by
  obtain ⟨h1,h2⟩:=conf_lg h
  have hc:confOk c=true:=by
    unfold confCheck at h
    split at h
    · assumption
    · cases h
  rw [confRoom,if_pos hc]
  have:c.lg=1∨c.lg=2∨c.lg=3∨c.lg=4∨c.lg=5∨c.lg=6:=by omega
  rcases this with e | e | e | e | e | e <;> rw [e] <;> decide
theorem conf_shl2 {c:Config} (h:confCheck c=0):IntKind.wrap .i64 (2 ^ (min c.lg.toNat (IntKind.bits .i64)))=confRoom c:=by simpa using conf_shl h
theorem conf_no {c:Config} (h:¬ confCheck c=0):confRoom c=0:=by
  unfold confCheck at h
  split at h
  · exact absurd rfl h
  · rename_i hc; simp [confRoom,hc]
def F49:AFn:=⟨9,(.seq (.reg [o1 1 (.box 23 0),o1 2 (.mv (ci 0))]) (.seq (.seq (.reg [o1 3 (.ld 7 true 1),o1 4 (.call 76 [3]),o1 5 (.bin .neq 4 (ci 0))]) (.cond 5 (.seq (.reg [o1 2 (.mv (ci 0))]) .ret) .skip)) (.seq (.reg [o1 6 (.faddr 0 1),o1 7 (.ld 1 false 6),o1 8 (.bin .shl (ci 1) 7),o1 2 (.mv 8)]) .ret))),[(2,none)]⟩
theorem x49:xf Tryz.prog 49=some F49:=by kernel_rfl
theorem con49 {c_lg c_th:Int} {c_pol c_wt:Int} {c_spin c_yld:Int} {c_single:Bool}  : Con Tryz.prog 49 [.agg [.int .i64 c_lg,.int .i64 c_th,.int .i64 c_pol,.int .i64 c_wt,.int .i64 c_spin,.int .i64 c_yld,.bool c_single]] ((.int .i64 (confRoom (Config.mk c_lg c_th c_pol c_wt c_spin c_yld c_single))),[],[]):=by
  refine mcb_of_vc mix x49 (by simp [F49]) fun hw _=>?_
  simp only [wfs,AV.wf,inR_i64] at hw
  repeat' with_reducible first|refine gTn_of (fun h=>?_) (fun h=>?_)|refine gT_of (fun h=>?_) (fun h=>?_)|refine caseTn_of (fun h=>?_) (fun h=>?_)|refine caseT_of (fun h=>?_) (fun h=>?_)|refine fin_pure ?_ ?_ ?_ ?_|refine kv_ifn ?_ ?_|refine kv_if ?_ ?_|refine k_if ?_ ?_|refine P0 (con76) ?_ ?_ ?_|refine ACV.of (con76) ?_ ?_ ?_|refine ACK.of (con76) ?_ ?_|simp -implicitDefEqProofs only [F49,qA,doLd,doSt,splice,doEqs,qU,List.reduceReplicate,Nat.reduceAdd,Nat.reduceSub,Nat.reduceLeDiff,Nat.reduceEqDiff,Nat.reduceMul,reduceIte,reduceCtorEq,i_shl, *]
  all_goals (try simp only [decide_eq_true_eq,decide_eq_false_iff_not,Bool.not_eq_true,Bool.not_eq_false] at *)
  all_goals (try (have hlg:=conf_lg (by assumption); simp only [] at hlg))
  all_goals (try (rw [conf_no (by assumption)]; done))
  all_goals (try (have hsh:=conf_shl2 (by assumption); simp only [] at hsh))
  all_goals first
    | (simp; done)
    | exact idxF_any
    | exact idxF_any.symm
    | grind [inR_i64,wrap64,maxLen_eq]

def F282:AFn:=⟨42,(.seq (.reg [o1 8 (.mv (.const .slnil)),o1 9 (.mv (ci 0))]) (.seq (.reg [o1 11 (.mv 0),o1 12 (.len 11),o1 13 (.mkslice 107 2 [(.int .i64 0),(.int .i64 0)] 16 12 12),o1 10 (.mv 13)]) (.seq (.reg [o1 14 (.mv 10),o1 15 (.mv 0),o1 16 (.cpy 2 14 15)]) (.seq (.block 0 (.seq (.reg [o1 18 (.mv 1),o1 19 (.bin .lss 18 (ci 0)),o1 20 (.mv 19),o4 21 (.mv 0) 20,o4 22 (.call 53 [21]) 20,o4 23 (.not 22) 20,o1 24 (.pick 20 (.const (.bool true)) 23),o1 17 (.mv 24)]) (.cond 17 (.seq (.reg [o1 25 (.mv 10),o1 8 (.mv 25),o1 9 (.mv (ci 40))]) .ret) (.seq (.reg [o1 27 (.mv 0),o1 28 (.mv 1),o1 29 (.call 295 [27,28]),o1 30 (.not 29),o1 26 (.mv 30)]) (.cond 26 (.seq (.reg [o1 31 (.mv 10),o1 32 (.mv 2),o1 8 (.mv 31),o1 9 (.mv 32)]) .ret) .skip))))) (.seq (.reg [o1 33 (.mv 3),o1 34 (.mv 10),o1 35 (.mv 1),o1 36 (.mv 0),o1 37 (.len 36),o1 38 (.call 98 [35,37]),o1 39 (.iaddr 2 34 38),o1 40 (.callv 33 [39])]) (.seq (.reg [o1 41 (.mv 10),o1 8 (.mv 41),o1 9 (.mv (ci 0))]) .ret)))))),[(8,none),(9,none)]⟩
theorem x282:xf Tryz.prog 282=some F282:=by kernel_rfl
def F283:AFn:=⟨7,(.reg [o1 3 (.mv 0),o1 4 (.ld 1 false 1),o1 5 (.nilchk 3),o1 6 (.faddr 1 5),o2 (.st 1 6 4)]),[]⟩
theorem x283:xf Tryz.prog 283=some F283:=by kernel_rfl
def F288:AFn:=⟨7,(.reg [o1 3 (.mv 0),o1 4 (.nilchk 3),o1 5 (.faddr 1 4),o1 6 (.ld 1 false 5),o2 (.st 1 1 6)]),[]⟩
theorem x288:xf Tryz.prog 288=some F288:=by kernel_rfl
def F286:AFn:=⟨16,(.seq (.seq (.reg [o1 5 (.ld 1 false 1),o1 6 (.bin .gtr 5 (ci 1099511627776))]) (.cond 6 (.seq (.reg [o2 (.st 1 2 (ci 40))]) .ret) .skip)) (.regT [o1 7 (.mv 0),o1 8 (.nilchk 7),o1 9 (.faddr 0 8),o1 10 (.ld 1 false 9),o1 11 (.ld 1 false 3),o1 12 (.len 11),o1 13 (.bin .add 10 12),o1 14 (.nilchk 7),o1 15 (.faddr 0 14),o2 (.st 1 15 13)] [(1,4),(2,4),(3,4),(1,5),(2,5),(3,5)])),[]⟩
theorem x286:xf Tryz.prog 286=some F286:=by kernel_rfl
def F252:AFn:=⟨14,(.seq (.reg [o1 5 (.box 3 2),o1 6 (.mv (.const .slnil)),o1 7 (.mv (ci 0))]) (.seq (.reg [o1 8 (.mv 0),o1 9 (.mv 1),o1 10 (.mkfn (.func 283) [] [5]),o1 11 (.call 282 [8,9,(ci 30),10]),o1 12 (.ext 11 0),o1 13 (.ext 11 1),o1 6 (.mv 12),o1 7 (.mv 13)]) .ret)),[(6,none),(7,none)]⟩
theorem x252:xf Tryz.prog 252=some F252:=by kernel_rfl
def F271:AFn:=⟨15,(.seq (.reg [o1 4 (.alloc 3 [(.int .i64 0)]),o1 5 (.mv (ci 0))]) (.seq (.reg [o1 7 (.mv 0),o1 8 (.mv 1),o1 9 (.mkfn (.func 288) [] [4]),o1 10 (.call 282 [7,8,(ci 40),9]),o1 6 (.mv 10),o1 11 (.ext 6 0),o1 12 (.ext 6 1),o1 5 (.mv 12)]) (.seq (.reg [o1 13 (.ld 1 false 4),o1 14 (.mv 5),o2 (.st 1 4 13),o1 5 (.mv 14)]) .ret))),[(4,some (1,false)),(5,none)]⟩
theorem x271:xf Tryz.prog 271=some F271:=by kernel_rfl
def F260:AFn:=⟨20,(.seq (.reg [o1 2 (.box 26 0),o1 3 (.box 3 1),o1 4 (.mv (.const .slnil)),o1 5 (.mv (ci 0))]) (.seq (.reg [o1 6 (.alloc 36 [(.int .i64 0)]),o2 (.st 1 6 (ci 0))]) (.seq (.reg [o1 10 (.ld 1 false 2),o1 11 (.ld 1 false 3),o1 12 (.mkfn (.func 286) [] [3,6,2]),o1 13 (.call 282 [10,11,(ci 40),12]),o1 9 (.mv 13),o1 14 (.ext 9 0),o1 15 (.ext 9 1),o1 7 (.mv 14),o1 8 (.mv 15)]) (.seq (.reg [o1 16 (.mv 7),o1 17 (.ld 1 false 6),o1 18 (.mv 8),o1 19 (.mx 17 18),o1 4 (.mv 16),o1 5 (.mv 19)]) .ret)))),[(4,none),(5,none)]⟩
theorem x260:xf Tryz.prog 260=some F260:=by kernel_rfl
def F89:AFn:=⟨21,(.seq (.reg [o1 4 (.mv (.const .slnil)),o1 5 (.mv (ci 0))]) (.seq (.reg [o1 8 (.mv 0),o1 9 (.call 129 [8]),o1 6 (.mv 9)]) (.seq (.reg [o1 10 (.mv 0),o1 11 (.mv 1),o1 12 (.call 137 [10,11]),o1 7 (.mv 12)]) (.seq (.seq (.reg [o1 13 (.mv 7),o1 14 (.bin .lss 13 (ci 0))]) (.cond 14 (.seq (.reg [o1 15 (.mv 6),o1 4 (.mv 15),o1 5 (.mv (ci 40))]) .ret) .skip)) (.seq (.reg [o1 16 (.mv 6),o1 17 (.mv 7),o1 18 (.mv 7),o1 19 (.bin .add 18 (ci 1)),o1 20 (.call 138 [16,17,19]),o1 4 (.mv 20),o1 5 (.mv (ci 0))]) .ret))))),[(4,none),(5,none)]⟩
theorem x89:xf Tryz.prog 89=some F89:=by kernel_rfl
theorem idxF_lt {α:Type} {p:α→Bool} {l:List α}:idxF p l<l.length:=by
  unfold idxF
  split
  · rename_i i hi; have:=(List.findIdx?_eq_some_iff_getElem.1 hi).1; omega
  · omega
theorem place_nil (id:Int):lPlace [] id=-1:=by simp [lPlace,lCheck,lU,idxF]
theorem con89 {l:List Int} {id:Int} (hl:l.length≤100000000):Con Tryz.prog 89 [.slv 1 (l.map encI),.int .i64 id] (.tup [.slv 1 ((lLeave l id).1.map encI),.int .i64 (lLeave l id).2],[],[]):=by
  by_cases hne:l=[]
  · subst hne
    refine con_nilm ?_ ?_
    all_goals refine mcb_of_vc mix x89 (by simp [F89]) fun hw _=>?_
    repeat' with_reducible first|refine gTn_of (fun h=>?_) (fun h=>?_)|refine gT_of (fun h=>?_) (fun h=>?_)|refine caseTn_of (fun h=>?_) (fun h=>?_)|refine caseT_of (fun h=>?_) (fun h=>?_)|refine fin_alb ?_ ?_ ?_ rfl ?_|refine kv_ifn ?_ ?_|refine kv_if ?_ ?_|refine k_if ?_ ?_|refine P0 con129n ?_ ?_ ?_|refine N1 con129e ?_ ?_|refine N1 (con129g hne ?_) ?_ ?_|refine P0 (con137 ?_) ?_ ?_ ?_|refine P0 (con_w0 (enc:=encI) (con137 (l:=[]) ?_)) ?_ ?_ ?_|refine P0 (con_we (enc:=encI) (con137 (l:=[]) ?_)) ?_ ?_ ?_|refine ACV.of (con137 ?_) ?_ ?_ ?_|refine AC.own1 (conDel2 (l:=[]) (T:=3) ?_ ?_ ?_) ?_ ?_ (by simp -implicitDefEqProofs only [m_get,Nat.reduceEqDiff,reduceIte,if_true,if_false]; first|done|exact rfl) ?_ ?_ ?_ ?_ ?_|simp -implicitDefEqProofs only [F89,qA,ld_0,ld_pv,st_0,splice,doEqs,qU,List.reduceReplicate,Nat.reduceAdd,Nat.reduceSub,Nat.reduceLeDiff,Nat.reduceEqDiff,Nat.reduceMul,reduceIte,reduceCtorEq,qI,Nat.reduceLT,Nat.reduceBEq,up_s,doBslice,Nat.zero_le,place_nil, *]
    all_goals first
      | (simp; done)
      | (simp at hl ⊢; omega)
      | (refine Wk.tup ⟨?_,fun _=>rfl,Wk.refl _,fun _=>rfl,trivial⟩
         first
          | exact Wk.nil _
          | exact Wk.refl _
          | (refine Wk.of_eq ?_; simp [lLeave,lPlace]; done))
      | (refine Wk.of_eq ?_; grind [lLeave])
      | (have hi:=idxF_lt (p:=fun y=>decide (id=y)) (l:=([]:List Int)); grind [lPlace,wrap64,maxLen_eq,inR_i64])
      | (refine Wk.of_eq ?_
         have hi:=idxF_lt (p:=fun y=>decide (id=y)) (l:=([]:List Int))
         have hp:0≤lPlace ([]:List Int) id:=by grind
         have hq:lPlace ([]:List Int) id<([]:List Int).length:=by grind [lPlace]
         have hlen:(([]:List Int).eraseIdx (lPlace ([]:List Int) id).toNat).length=([]:List Int).length - 1:=by rw [List.length_eraseIdx,if_pos (by omega)]
         simp [lLeave,hlen,Int.not_lt.2 hp,List.take_of_length_le,Nat.le_refl]; done)
      | trace_state
  · refine mcb_of_vc mix x89 (by simp [F89]) fun hw _=>?_
    simp only [wfs,AV.wf,inR_i64,List.length_map] at hw
    repeat' with_reducible first|refine gTn_of (fun h=>?_) (fun h=>?_)|refine gT_of (fun h=>?_) (fun h=>?_)|refine caseTn_of (fun h=>?_) (fun h=>?_)|refine caseT_of (fun h=>?_) (fun h=>?_)|refine fin_alb ?_ ?_ ?_ rfl ?_|refine kv_ifn ?_ ?_|refine kv_if ?_ ?_|refine k_if ?_ ?_|refine P0 con129n ?_ ?_ ?_|refine N1 con129e ?_ ?_|refine N1 (con129g hne ?_) ?_ ?_|refine P0 (con137 ?_) ?_ ?_ ?_|refine P0 (con_w0 (enc:=encI) (con137 (l:=[]) ?_)) ?_ ?_ ?_|refine P0 (con_we (enc:=encI) (con137 (l:=[]) ?_)) ?_ ?_ ?_|refine ACV.of (con137 ?_) ?_ ?_ ?_|refine AC.own1 (conDel2 (l:=l) (T:=3) ?_ ?_ ?_) ?_ ?_ (by simp -implicitDefEqProofs only [m_get,Nat.reduceEqDiff,reduceIte,if_true,if_false]; first|done|exact rfl) ?_ ?_ ?_ ?_ ?_|simp -implicitDefEqProofs only [F89,qA,ld_0,ld_pv,st_0,splice,doEqs,qU,List.reduceReplicate,Nat.reduceAdd,Nat.reduceSub,Nat.reduceLeDiff,Nat.reduceEqDiff,Nat.reduceMul,reduceIte,reduceCtorEq,qI,Nat.reduceLT,Nat.reduceBEq,up_s,doBslice,Nat.zero_le, *]
    all_goals first
      | (simp; done)
      | (simp at hl ⊢; omega)
      | (refine Wk.tup ⟨?_,fun _=>rfl,Wk.refl _,fun _=>rfl,trivial⟩
         first
          | exact Wk.nil _
          | exact Wk.refl _
          | (refine Wk.of_eq ?_; simp [lLeave,lPlace]; done))
      | (refine Wk.of_eq ?_; grind [lLeave])
      | (have hi:=idxF_lt (p:=fun y=>decide (id=y)) (l:=l); grind [lPlace,wrap64,maxLen_eq,inR_i64])
      | (refine Wk.of_eq ?_
         have hi:=idxF_lt (p:=fun y=>decide (id=y)) (l:=l)
         have hp:0≤lPlace l id:=by grind
         have hq:lPlace l id<l.length:=by grind [lPlace]
         have hlen:(l.eraseIdx (lPlace l id).toNat).length=l.length - 1:=by rw [List.length_eraseIdx,if_pos (by omega)]
         simp [lLeave,hlen,Int.not_lt.2 hp,List.take_of_length_le,Nat.le_refl]; done)
      | trace_state

def F291:AFn:=⟨3,(.seq (.reg [o1 1 (.box 244 0),o1 2 (.mv (ci 0))]) (.seq (.reg [o1 2 (.mv (ci 0))]) .ret)),[(2,none)]⟩
theorem x291:xf Tryz.prog 291=some F291:=by kernel_rfl
def F292:AFn:=⟨3,(.seq (.reg [o1 1 (.box 244 0),o1 2 (.mv (ci 0))]) (.seq (.reg [o1 2 (.mv (ci 1))]) .ret)),[(2,none)]⟩
theorem x292:xf Tryz.prog 292=some F292:=by kernel_rfl
def F294:AFn:=⟨3,(.seq (.reg [o1 1 (.box 244 0),o1 2 (.mv (ci 0))]) (.seq (.reg [o1 2 (.mv (ci 2))]) .ret)),[(2,none)]⟩
theorem x294:xf Tryz.prog 294=some F294:=by kernel_rfl
def F293:AFn:=⟨27,(.seq (.reg [o1 1 (.box 244 0),o1 2 (.mv (ci 0))]) (.seq (.block 0 (.seq (.reg [o1 4 (.faddr 7 1),o1 5 (.ld 1 false 4),o1 6 (.faddr 0 1),o1 7 (.faddr 4 6),o1 8 (.ld 1 false 7),o1 9 (.bin .lss 5 8),o1 3 (.mv 9)]) (.cond 3 (.seq (.reg [o1 10 (.ld 8 true 1),o1 11 (.call 291 [10]),o1 2 (.mv 11)]) .ret) (.seq (.reg [o1 13 (.faddr 7 1),o1 14 (.ld 1 false 13),o1 15 (.faddr 0 1),o1 16 (.faddr 4 15),o1 17 (.ld 1 false 16),o1 18 (.faddr 0 1),o1 19 (.faddr 5 18),o1 20 (.ld 1 false 19),o1 21 (.bin .add 17 20),o1 22 (.bin .lss 14 21),o1 12 (.mv 22)]) (.cond 12 (.seq (.reg [o1 23 (.ld 8 true 1),o1 24 (.call 292 [23]),o1 2 (.mv 24)]) .ret) .skip))))) (.seq (.reg [o1 25 (.ld 8 true 1),o1 26 (.call 294 [25]),o1 2 (.mv 26)]) .ret))),[(2,none)]⟩
theorem x293:xf Tryz.prog 293=some F293:=by kernel_rfl
def F281:AFn:=⟨20,(.seq (.reg [o1 2 (.box 23 0),o1 4 (.mv (ci 0))]) (.seq (.seq (.reg [o1 6 (.ld 7 true 2),o1 7 (.call 76 [6]),o1 8 (.bin .neq 7 (ci 0))]) (.cond 8 (.seq (.reg [o1 4 (.mv (ci 0))]) .ret) .skip)) (.seq (.reg [o1 9 (.mkmap),o2 (.mupd 9 (ci 0) (.func 291)),o2 (.mupd 9 (ci 1) (.func 292)),o2 (.mupd 9 (ci 2) (.func 293)),o2 (.mupd 9 (ci 3) (.func 294)),o1 10 (.mv 9),o1 5 (.mv 10)]) (.seq (.reg [o1 11 (.mv 5),o1 12 (.faddr 3 2),o1 13 (.ld 1 false 12),o1 14 (.lkp .fnnil false 11 13),o1 15 (.ld 7 true 2),o1 16 (.mv 1),o1 17 (.mx 16 (ci 0)),o1 18 (.build [(.int .i64 0),(.int .i64 0),(.int .i64 0),(.int .i64 0),(.int .i64 0),(.int .i64 0),(.bool false),(.int .i64 0)] [(0,7,15),(7,1,17)]),o1 19 (.callv 14 [18]),o1 4 (.mv 19)]) .ret)))),[(4,none)]⟩
theorem x281:xf Tryz.prog 281=some F281:=by kernel_rfl
def F285:AFn:=⟨5,(.seq (.reg [o1 2 (.mv (.const (.bool false)))]) (.seq (.reg [o1 3 (.mv 0),o1 4 (.bin .eql 3 (ci 0)),o1 2 (.mv 4)]) .ret)),[(2,none)]⟩
theorem x285:xf Tryz.prog 285=some F285:=by kernel_rfl
def F296:AFn:=⟨24,(.seq (.reg [o1 2 (.mv (ci 0)),o1 3 (.mv (.const (.bool false)))]) (.seq (.reg [o1 8 (.mv 0),o1 9 (.nilchk 8),o1 10 (.faddr 0 9),o1 11 (.faddr 1 10),o1 12 (.ld 1 false 11),o1 13 (.call 297 [12]),o1 7 (.mv 13),o1 14 (.ext 7 0),o1 15 (.ext 7 1),o1 16 (.ext 7 2),o1 4 (.mv 14),o1 5 (.mv 15),o1 6 (.mv 16)]) (.seq (.reg [o1 17 (.mv 0),o1 18 (.mv 5),o1 19 (.nilchk 17),o1 20 (.faddr 0 19),o1 21 (.faddr 1 20),o2 (.st 1 21 18)]) (.seq (.reg [o1 22 (.mv 4),o1 23 (.mv 6),o1 2 (.mv 22),o1 3 (.mv 23)]) .ret)))),[(2,none),(3,none)]⟩
theorem x296:xf Tryz.prog 296=some F296:=by kernel_rfl
def F284:AFn:=⟨45,(.seq (.reg [o1 2 (.box 29 0),o1 4 (.alloc 29 [(.int .i64 0),.slnil]),o1 5 (.mv (.const .slnil))]) (.seq (.reg [o1 11 (.ld 2 true 2),o1 12 (.call 90 [11]),o1 13 (.build [(.int .i64 0),.slnil] [(0,2,12)]),o1 6 (.alloc 247 [(.int .i64 0),.slnil]),o2 (.st 2 6 13)]) (.seq (.seq (.reg [o1 14 (.ld 2 true 2),o1 15 (.call 55 [14]),o1 16 (.not 15)]) (.cond 16 (.seq (.reg [o1 17 (.faddr 0 6),o1 18 (.ld 2 true 17),o2 (.st 2 4 18),o1 5 (.mv (.const .slnil))]) .ret) .skip)) (.seq (.reg [o1 19 (.faddr 0 6),o1 20 (.faddr 0 19),o1 21 (.ld 1 false 20),o1 22 (.bin .add 21 (ci 1)),o1 23 (.mn 22 (ci 1099511627776)),o1 24 (.faddr 0 6),o1 25 (.faddr 0 24),o2 (.st 1 25 23)]) (.seq (.reg [o1 7 (.mv (.const .slnil))]) (.seq (.reg [o1 26 (.mkfn (.func 296) [6] []),o1 8 (.mv 26)]) (.seq (.block 0 (.loop (.seq (.seq (.reg [o1 27 (.mv 1),o1 28 (.mv 7),o1 29 (.len 28),o1 30 (.callv 27 [29])]) (.cond 30 .skip (.exit 0))) (.block 1 (.seq (.reg [o1 32 (.mv 8),o1 33 (.callv 32 []),o1 31 (.mv 33),o1 34 (.ext 31 0),o1 35 (.ext 31 1),o1 9 (.mv 34),o1 10 (.mv 35)]) (.seq (.seq (.reg [o1 36 (.mv 10),o1 37 (.not 36)]) (.cond 37 (.exit 0) .skip)) (.reg [o1 38 (.mv 7),o1 39 (.mv 9),o1 40 (.bslice 3 1 1 [39]),o1 41 (.app 3 1 8 38 40),o1 7 (.mv 41)]))))))) (.seq (.reg [o1 42 (.faddr 0 6),o1 43 (.ld 2 true 42),o1 44 (.mv 7),o2 (.st 2 4 43),o1 5 (.mv 44)]) .ret)))))))),[(4,some (2,true)),(5,none)]⟩
theorem x284:xf Tryz.prog 284=some F284:=by kernel_rfl
def F255:AFn:=⟨20,(.seq (.reg [o1 1 (.box 29 0),o1 2 (.alloc 29 [(.int .i64 0),.slnil]),o1 3 (.mv (ci 0)),o1 4 (.mv (.const (.bool false)))]) (.seq (.reg [o1 8 (.ld 2 true 1),o1 9 (.call 284 [8,(.func 285)]),o1 7 (.mv 9),o1 10 (.ext 7 0),o1 11 (.ext 7 1),o1 5 (.alloc 29 [(.int .i64 0),.slnil]),o2 (.st 2 5 10),o1 6 (.mv 11)]) (.seq (.seq (.reg [o1 12 (.mv 6),o1 13 (.len 12),o1 14 (.bin .eql 13 (ci 0))]) (.cond 14 (.seq (.reg [o1 15 (.ld 2 true 5),o2 (.st 2 2 15),o1 3 (.mv (ci 0)),o1 4 (.mv (.const (.bool false)))]) .ret) .skip)) (.seq (.regT [o1 16 (.ld 2 true 5),o1 17 (.mv 6),o1 18 (.iaddr 1 17 (ci 0)),o1 19 (.ld 1 false 18),o2 (.st 2 2 16),o1 3 (.mv 19),o1 4 (.mv (.const (.bool true)))] [(0,2),(0,3),(2,4),(3,4)]) .ret)))),[(2,some (2,true)),(3,none),(4,none)]⟩
theorem x255:xf Tryz.prog 255=some F255:=by kernel_rfl
def F99:AFn:=⟨11,(.seq (.reg [o1 3 (.mv (.const (.bool false)))]) (.seq (.reg [o1 4 (.mv 0),o1 5 (.bin .lss 4 (ci 0)),o1 6 (.mv 5),o4 7 (.mv 0) 6,o4 8 (.ld 1 false 1) 6,o4 9 (.bin .geq 7 8) 6,o1 10 (.pick 6 (.const (.bool true)) 9),o1 3 (.mv 10)]) .ret)),[(3,none)]⟩
theorem x99:xf Tryz.prog 99=some F99:=by kernel_rfl
theorem con99 {x th:Int}  : Con Tryz.prog 99 [.int .i64 x,.pv [.int .i64 th]] ((.bool ((decide (x<0) || decide (x≥th)))),[],[]):=by
  refine mcb_of_vc mix x99 (by simp [F99]) fun hw _=>?_
  simp only [wfs,AV.wf,inR_i64] at hw
  repeat' with_reducible first|refine gTn_of (fun h=>?_) (fun h=>?_)|refine gT_of (fun h=>?_) (fun h=>?_)|refine caseTn_of (fun h=>?_) (fun h=>?_)|refine caseT_of (fun h=>?_) (fun h=>?_)|refine fin_pure ?_ ?_ ?_ ?_|refine kv_ifn ?_ ?_|refine kv_if ?_ ?_|refine k_if ?_ ?_|simp -implicitDefEqProofs only [F99,qA,doLd,doSt,splice,doEqs,qU,List.reduceReplicate,Nat.reduceAdd,Nat.reduceSub,Nat.reduceLeDiff,Nat.reduceEqDiff,Nat.reduceMul,reduceIte,reduceCtorEq,ld_pv, *]
  all_goals first
    | (simp; done)
    | exact idxF_any
    | exact idxF_any.symm
    | grind [inR_i64,wrap64,maxLen_eq]

def amongAll (th:Int) (a b c d:List Int):Bool:=amongOk th a && amongOk th b && amongOk th c && amongOk th d
def F54:AFn:=⟨24,(.seq (.reg [o1 2 (.box 3 0),o1 4 (.mv (.const (.bool false)))]) (.seq (.reg [o1 8 (.mkfn (.func 99) [] [2]),o1 5 (.mv 8)]) (.seq (.seq (.reg [o1 9 (.mv 1),o1 10 (.len 9),o1 11 (.mv (ci 0))]) (.block 0 (.loop (.seq (.reg [o1 12 (.bin .lss 11 10)]) (.seq (.cond 12 .skip (.exit 0)) (.seq (.block 1 (.seq (.reg [o1 13 (.iaddr 1 9 11),o1 14 (.ld 1 false 13),o1 7 (.mv 14)]) (.seq (.reg [o1 15 (.mv 7),o1 16 (.call 100 [15]),o1 17 (.not 16),o1 18 (.mv 17),o4 19 (.mv 7) 18,o4 20 (.mv 5) 18,o4 21 (.call 101 [19,20]) 18,o1 22 (.pick 18 (.const (.bool true)) 21)]) (.cond 22 (.seq (.reg [o1 4 (.mv (.const (.bool false)))]) .ret) .skip)))) (.reg [o1 23 (.bin .add 11 (ci 1)),o1 11 (.mv 23)]))))))) (.seq (.reg [o1 4 (.mv (.const (.bool true)))]) .ret)))),[(4,none)]⟩
theorem x54:xf Tryz.prog 54=some F54:=by kernel_rfl
theorem c4:((4:Nat):Int)=4:=rfl
theorem wr_1:IntKind.wrap .i64 1=1:=by decide
theorem wr_2:IntKind.wrap .i64 2=2:=by decide
theorem wr_3:IntKind.wrap .i64 3=3:=by decide
theorem wr_4:IntKind.wrap .i64 4=4:=by decide
theorem wrap_1:IntKind.wrap .i64 (0+1)=1:=by decide
theorem wrap_2:IntKind.wrap .i64 (1+1)=2:=by decide
theorem wrap_3:IntKind.wrap .i64 (2+1)=3:=by decide
theorem wrap_4:IntKind.wrap .i64 (3+1)=4:=by decide
theorem un_4 {P:Program} {b0:Nat} {ac:ACode} {K:KX} {env:List AV} {m:AM} {b:Nat}:UnR P b0 ac K 4 env m b=vc P b0 ac (unK b0 (UnR P b0 ac K 3) K) env m b:=rfl
theorem un_5 {P:Program} {b0:Nat} {ac:ACode} {K:KX} {env:List AV} {m:AM} {b:Nat}:UnR P b0 ac K 5 env m b=vc P b0 ac (unK b0 (UnR P b0 ac K 4) K) env m b:=rfl
theorem con54 {th:Int} {a b c d:List Int} (ha:a.length≤100000000) (hb:b.length≤100000000) (hc:c.length≤100000000) (hd:d.length≤100000000):Con Tryz.prog 54 [.int .i64 th,.slv 1 [[.slv 1 (a.map encI)],[.slv 1 (b.map encI)],[.slv 1 (c.map encI)],[.slv 1 (d.map encI)]]] (.bool (amongAll th a b c d),[],[]):=by
  refine mcb_of_vc mix x54 (by simp [F54]) fun hw _=>?_
  simp only [wfs,AV.wf,inR_i64,List.length_map] at hw
  repeat' with_reducible first|refine gTn_of (fun h=>?_) (fun h=>?_)|refine gT_of (fun h=>?_) (fun h=>?_)|refine caseTn_of (fun h=>?_) (fun h=>?_)|refine caseT_of (fun h=>?_) (fun h=>?_)|refine fin_pure ?_ ?_ ?_ ?_|refine kv_ifn ?_ ?_|refine kv_if ?_ ?_|refine k_if ?_ ?_|refine ACV.of (con101 (p:=fun id=>decide (id<0) || decide (id≥th)) (caps:=[.pv [.int .i64 th]]) rfl (fun x _=>con99)) ?_ ?_ ?_|refine AC.viewAll ?_ ?_ ?_|refine lp_unroll 5 ?_ ?_|refine And.intro (Nat.le_of_ble_eq_true rfl) ?_|refine P0 (con100 ?_) ?_ ?_ ?_|refine ACV.of (con100 ?_) ?_ ?_ ?_|refine ACK.of (con100 ?_) ?_ ?_|simp -implicitDefEqProofs only [F54,qA,ld_0,ld_pv,st_0,splice,doEqs,qU,List.reduceReplicate,Nat.reduceAdd,Nat.reduceSub,Nat.reduceLeDiff,Nat.reduceEqDiff,Nat.reduceMul,reduceIte,reduceCtorEq,qI,Nat.reduceLT,Nat.reduceBEq,un_4,un_5,Int.toNat_natCast,doIaddr,List.getD_cons_zero,List.getD_cons_succ,Int.natCast_zero,Int.natCast_one,Int.reduceLT,Int.reduceLE,Int.reduceAdd,Int.reduceToNat,c4,wr_1,wr_2,wr_3,wr_4,wrap_1,wrap_2,wrap_3,wrap_4,Int.toNat_one,Int.toNat_zero, *]
  all_goals first
    | omega
    | (simp; done)
    | grind [amongAll,amongOk]
    | trace_state

def F50:AFn:=⟨6,(.seq (.reg [o1 1 (.box 42 0),o1 2 (.mv (.const (.bool false)))]) (.seq (.reg [o1 3 (.ld 11 true 1),o1 4 (.call 51 [3]),o1 5 (.not 4),o1 2 (.mv 5)]) .ret)),[(2,none)]⟩
theorem x50:xf Tryz.prog 50=some F50:=by kernel_rfl
theorem con50 {t_st t_kind:Int} {t_val t_untl:Int} {t_pc t_reg:Int} {t_seen t_tries:Int} {t_late:Bool} {t_res t_got:Int}  : Con Tryz.prog 50 [.agg [.int .i64 t_st,.int .i64 t_kind,.int .i64 t_val,.int .i64 t_untl,.int .i64 t_pc,.int .i64 t_reg,.int .i64 t_seen,.int .i64 t_tries,.bool t_late,.int .i64 t_res,.int .i64 t_got]] ((.bool (!tCheck (Thread.mk t_st t_kind t_val t_untl t_pc t_reg t_seen t_tries t_late t_res t_got))),[],[]):=by
  refine mcb_of_vc mix x50 (by simp [F50]) fun hw _=>?_
  simp only [wfs,AV.wf,inR_i64] at hw
  repeat' with_reducible first|refine gTn_of (fun h=>?_) (fun h=>?_)|refine gT_of (fun h=>?_) (fun h=>?_)|refine caseTn_of (fun h=>?_) (fun h=>?_)|refine caseT_of (fun h=>?_) (fun h=>?_)|refine fin_pure ?_ ?_ ?_ ?_|refine kv_ifn ?_ ?_|refine kv_if ?_ ?_|refine k_if ?_ ?_|refine P0 (con51) ?_ ?_ ?_|refine ACV.of (con51) ?_ ?_ ?_|refine ACK.of (con51) ?_ ?_|simp -implicitDefEqProofs only [F50,qA,doLd,doSt,splice,doEqs,qU,List.reduceReplicate,Nat.reduceAdd,Nat.reduceSub,Nat.reduceLeDiff,Nat.reduceEqDiff,Nat.reduceMul,reduceIte,reduceCtorEq, *]
  all_goals first
    | (simp; done)
    | exact idxF_any
    | exact idxF_any.symm
    | grind [inR_i64,wrap64,maxLen_eq]

theorem con50t (x:Thread):Con Tryz.prog 50 (.agg (encT x) :: []) (.bool (!tCheck x),[],[]):=con50
def F18:AFn:=⟨68,(.seq (.reg [o1 1 (.box 33 0),o1 2 (.mv (.const (.bool false)))]) (.seq (.reg [o1 5 (.faddr 0 1),o1 6 (.ld 7 true 5),o1 7 (.call 49 [6]),o1 3 (.mv 7)]) (.seq (.reg [o1 4 (.mv (.func 50))]) (.seq (.block 0 (.seq (.seq (.reg [o1 9 (.mv 3),o1 10 (.bin .eql 9 (ci 0)),o1 8 (.mv 10)]) (.cond 8 .skip (.seq (.reg [o1 11 (.faddr 7 1),o1 12 (.ld 3 true 11),o1 13 (.mv 3),o1 14 (.call 52 [12,13]),o1 15 (.not 14),o1 8 (.mv 15)]) (.cond 8 .skip (.seq (.reg [o1 16 (.faddr 10 1),o1 17 (.ld 1 false 16),o1 18 (.len 17),o1 19 (.mv 3),o1 20 (.bin .neq 18 19),o1 8 (.mv 20)]) (.cond 8 .skip (.reg [o1 21 (.faddr 10 1),o1 22 (.ld 1 false 21),o1 23 (.call 53 [22]),o1 24 (.not 23),o1 8 (.mv 24)]))))))) (.cond 8 (.seq (.reg [o1 2 (.mv (.const (.bool false)))]) .ret) (.seq (.seq (.reg [o1 26 (.faddr 0 1),o1 27 (.faddr 1 26),o1 28 (.ld 1 false 27),o1 29 (.faddr 11 1),o1 30 (.ld 1 false 29),o1 31 (.faddr 12 1),o1 32 (.ld 1 false 31),o1 33 (.faddr 13 1),o1 34 (.faddr 1 33),o1 35 (.ld 1 false 34),o1 36 (.faddr 15 1),o1 37 (.faddr 1 36),o1 38 (.ld 1 false 37),o1 39 (.bslice 27 1 4 [30,32,35,38]),o1 40 (.call 54 [28,39]),o1 41 (.not 40),o1 25 (.mv 41)]) (.cond 25 .skip (.seq (.reg [o1 42 (.faddr 13 1),o1 43 (.ld 2 true 42),o1 44 (.call 55 [43]),o1 45 (.not 44),o1 25 (.mv 45)]) (.cond 25 .skip (.reg [o1 46 (.faddr 15 1),o1 47 (.ld 2 true 46),o1 48 (.call 55 [47]),o1 49 (.not 48),o1 25 (.mv 49)]))))) (.cond 25 (.seq (.reg [o1 2 (.mv (.const (.bool false)))]) .ret) (.seq (.seq (.reg [o1 51 (.faddr 17 1),o1 52 (.ld 1 false 51),o1 53 (.bin .lss 52 (ci 0)),o1 50 (.mv 53)]) (.cond 50 .skip (.seq (.reg [o1 54 (.faddr 17 1),o1 55 (.ld 1 false 54),o1 56 (.bin .gtr 55 (ci 1099511627776)),o1 50 (.mv 56)]) (.cond 50 .skip (.seq (.reg [o1 57 (.faddr 18 1),o1 58 (.ld 1 false 57),o1 59 (.len 58),o1 60 (.faddr 0 1),o1 61 (.faddr 1 60),o1 62 (.ld 1 false 61),o1 63 (.bin .neq 59 62),o1 50 (.mv 63)]) (.cond 50 .skip (.reg [o1 64 (.faddr 18 1),o1 65 (.ld 1 false 64),o1 66 (.mv 4),o1 67 (.call 56 [65,66]),o1 50 (.mv 67)]))))))) (.cond 50 (.seq (.reg [o1 2 (.mv (.const (.bool false)))]) .ret) .skip))))))) (.seq (.reg [o1 2 (.mv (.const (.bool true)))]) .ret))))),[(2,none)]⟩
theorem x18:xf Tryz.prog 18=some F18:=by kernel_rfl
theorem con18 {s_lg s_th:Int} {s_pol s_wt:Int} {s_spin s_yld:Int} {s_single:Bool} {s_h s_t s_m:Int} {s_slots:List Slot} {s_sends s_recvs:List Int} {s_fe:Int} {s_fl:List Int} {s_ee:Int} {s_el:List Int} {s_now:Int} {s_thr:List Thread} {s_log:List Entry} (h1:s_slots.length≤100000000) (h2:s_sends.length≤100000000) (h3:s_recvs.length≤100000000) (h4:s_fl.length≤100000000) (h5:s_el.length≤100000000) (h6:s_thr.length≤100000000) (h7:s_log.length≤100000000):Con Tryz.prog 18 [.agg [.int .i64 s_lg,.int .i64 s_th,.int .i64 s_pol,.int .i64 s_wt,.int .i64 s_spin,.int .i64 s_yld,.bool s_single,.int .i64 s_h,.int .i64 s_t,.int .i64 s_m,.slv 2 (s_slots.map encS),.slv 1 (s_sends.map encI),.slv 1 (s_recvs.map encI),.int .i64 s_fe,.slv 1 (s_fl.map encI),.int .i64 s_ee,.slv 1 (s_el.map encI),.int .i64 s_now,.slv 11 (s_thr.map encT),.slv 5 (s_log.map encE)]] (.bool (fabCheck (State.mk (Config.mk s_lg s_th s_pol s_wt s_spin s_yld s_single) (Word.mk s_h s_t s_m) s_slots s_sends s_recvs (Event.mk s_fe s_fl) (Event.mk s_ee s_el) s_now s_thr s_log)),[],[]):=by
  refine mcb_of_vc mix x18 (by simp [F18]) fun hw _=>?_
  simp only [wfs,AV.wf,inR_i64,List.length_map] at hw
  repeat' with_reducible first|refine gTn_of (fun h=>?_) (fun h=>?_)|refine gT_of (fun h=>?_) (fun h=>?_)|refine caseTn_of (fun h=>?_) (fun h=>?_)|refine caseT_of (fun h=>?_) (fun h=>?_)|refine fin_pure ?_ ?_ ?_ ?_|refine kv_ifn ?_ ?_|refine kv_if ?_ ?_|refine k_if ?_ ?_|refine P0 (con56 (p:=fun t=>!tCheck t) (caps:=[]) rfl (fun x _=>con50t x)) ?_ ?_ ?_|refine ACV.of (con54 ?_ ?_ ?_ ?_) ?_ ?_ ?_|refine AC.viewAll ?_ ?_ ?_|refine P0 (con49) ?_ ?_ ?_|refine ACV.of (con49) ?_ ?_ ?_|refine ACK.of (con49) ?_ ?_|refine P0 (con52) ?_ ?_ ?_|refine ACV.of (con52) ?_ ?_ ?_|refine ACK.of (con52) ?_ ?_|refine P0 (con53 ?_) ?_ ?_ ?_|refine ACV.of (con53 ?_) ?_ ?_ ?_|refine ACK.of (con53 ?_) ?_ ?_|refine P0 (con55 ?_) ?_ ?_ ?_|refine ACV.of (con55 ?_) ?_ ?_ ?_|refine ACK.of (con55 ?_) ?_ ?_|simp -implicitDefEqProofs only [F18,qA,ld_0,ld_pv,st_0,splice,doEqs,qU,List.reduceReplicate,Nat.reduceAdd,Nat.reduceSub,Nat.reduceLeDiff,Nat.reduceEqDiff,Nat.reduceMul,reduceIte,reduceCtorEq,qI,Nat.reduceLT,Nat.reduceBEq,doBslice,encT, *]
  all_goals first
    | omega
    | (simp; done)
    | grind [fabCheck,amongAll]
    | trace_state

end Go.Sak
