/- Part S16 of the proofs about the program: K8, K9, K10, K11, K12, K13, K14. Conditions: none. -/
import Derived.Test.YtccdhjhffebpoaaGreatS13
import Derived.Test.YtccdhjhffebpoaaGreatS03
import Derived.Test.YtccdhjhffebpoaaGreatS15
import Derived.Test.YtccdhjhffebpoaaGreatS04
import Derived.Test.YtccdhjhffebpoaaGreatProg
import Derived.KernelRfl
namespace Go.Sak
open Go Go.RowKit Go.Proofs
set_option linter.unusedVariables false
set_option linter.unusedSimpArgs false
set_option maxRecDepth 10000
set_option maxHeartbeats 8000000
def F125:AFn:=⟨32,(.seq (.reg [o1 3 (.box 23 0),o1 6 (.mv (ci 0))]) (.seq (.block 0 (.seq (.reg [o1 8 (.mv 1),o1 9 (.bin .lss 8 (ci 0)),o1 10 (.mv 9),o4 11 (.mv 1) 10,o4 12 (.faddr 1 3) 10,o4 13 (.ld 1 false 12) 10,o4 14 (.bin .geq 11 13) 10,o1 15 (.pick 10 (.const (.bool true)) 14),o1 7 (.mv 15)]) (.cond 7 (.seq (.reg [o1 6 (.mv (ci 123))]) .ret) (.seq (.reg [o1 17 (.mv 2),o1 18 (.call 119 [17]),o1 19 (.not 18),o1 16 (.mv 19)]) (.cond 16 (.seq (.reg [o1 6 (.mv (ci 190))]) .ret) (.seq (.reg [o1 21 (.faddr 6 3),o1 22 (.ld 1 false 21),o1 23 (.mv 22),o3 24 (.mv 2) 23,o3 25 (.call 134 [24]) 23,o3 26 (.bin .eql 25 (ci 2)) 23,o1 27 (.pick 23 26 (.const (.bool false))),o1 28 (.mv 27),o3 29 (.mv 1) 28,o3 30 (.bin .gtr 29 (ci 0)) 28,o1 31 (.pick 28 30 (.const (.bool false))),o1 20 (.mv 31)]) (.cond 20 (.seq (.reg [o1 6 (.mv (ci 123))]) .ret) .skip))))))) (.seq (.reg [o1 6 (.mv (ci 0))]) .ret))),[(6,none)]⟩
theorem x125:xf Tryz.prog 125=some F125:=by kernel_rfl
theorem con125 {c_lg c_th:Int} {c_pol c_wt:Int} {c_spin c_yld:Int} {c_single:Bool} {id kind:Int}  : Con Tryz.prog 125 [.agg [.int .i64 c_lg,.int .i64 c_th,.int .i64 c_pol,.int .i64 c_wt,.int .i64 c_spin,.int .i64 c_yld,.bool c_single],.int .i64 id,.int .i64 kind] ((.int .i64 (opMay c_th c_single id kind)),[],[]):=by
  refine mcb_of_vc mix x125 (by simp [F125]) fun hw _=>?_
  simp only [wfs,AV.wf,inR_i64] at hw
  repeat' with_reducible first|refine gTn_of (fun h=>?_) (fun h=>?_)|refine gT_of (fun h=>?_) (fun h=>?_)|refine caseTn_of (fun h=>?_) (fun h=>?_)|refine caseT_of (fun h=>?_) (fun h=>?_)|refine fin_pure ?_ ?_ ?_ ?_|refine kv_ifn ?_ ?_|refine kv_if ?_ ?_|refine k_if ?_ ?_|refine P0 (con119) ?_ ?_ ?_|refine ACV.of (con119) ?_ ?_ ?_|refine ACK.of (con119) ?_ ?_|refine P0 (con134) ?_ ?_ ?_|refine ACV.of (con134) ?_ ?_ ?_|refine ACK.of (con134) ?_ ?_|simp -implicitDefEqProofs only [F125,qA,doLd,doSt,splice,doEqs,qU,List.reduceReplicate,Nat.reduceAdd,Nat.reduceSub,Nat.reduceLeDiff,Nat.reduceEqDiff,Nat.reduceMul,reduceIte,reduceCtorEq, *]
  all_goals first
    | (simp; done)
    | exact idxF_any
    | exact idxF_any.symm
    | grind [inR_i64,wrap64,maxLen_eq,opMay]

theorem i_shl (k:IntKind) (x y:Int):binI .shl k x y=if y<0 then none else some (.int k (k.wrap (x * 2 ^ (min y.toNat k.bits)))):=rfl
theorem conf_lg {c:Config} (h:confCheck c=0):1≤c.lg∧c.lg≤6:=by
  unfold confCheck at h
  split at h
  · rename_i hc; simp [confOk,within] at hc; omega
  · cases h
theorem conf_shl {c:Config} (h:confCheck c=0):IntKind.wrap .i64 (1 * 2 ^ (min c.lg.toNat (IntKind.bits .i64)))=confRoom c:=by
  obtain ⟨h1,h2⟩:=conf_lg h
  have hc:confOk c=true:=by
    unfold confCheck at h
    split at h
    · assumption
    · cases h
  rw [confRoom,if_pos hc]
  have:c.lg=1∨c.lg=2∨c.lg=3∨c.lg=4∨c.lg=5∨c.lg=6:=by omega
  rcases this with e | e | e | e | e | e <;> rw [e] <;> decide
theorem conf_shl2 {c:Config} (h:confCheck c=0):IntKind.wrap .i64 (2 ^ (min c.lg.toNat (IntKind.bits .i64)))=confRoom c:=by simpa using conf_shl h
theorem conf_no {c:Config} (h:¬ confCheck c=0):confRoom c=0:=by
  unfold confCheck at h
  split at h
  · exact absurd rfl h
  · rename_i hc; simp [confRoom,hc]
def F103:AFn:=⟨9,(.seq (.reg [o1 1 (.box 23 0),o1 2 (.mv (ci 0))]) (.seq (.seq (.reg [o1 3 (.ld 7 true 1),o1 4 (.call 123 [3]),o1 5 (.bin .neq 4 (ci 0))]) (.cond 5 (.seq (.reg [o1 2 (.mv (ci 0))]) .ret) .skip)) (.seq (.reg [o1 6 (.faddr 0 1),o1 7 (.ld 1 false 6),o1 8 (.bin .shl (ci 1) 7),o1 2 (.mv 8)]) .ret))),[(2,none)]⟩
theorem x103:xf Tryz.prog 103=some F103:=by kernel_rfl
theorem con103 {c_lg c_th:Int} {c_pol c_wt:Int} {c_spin c_yld:Int} {c_single:Bool}  : Con Tryz.prog 103 [.agg [.int .i64 c_lg,.int .i64 c_th,.int .i64 c_pol,.int .i64 c_wt,.int .i64 c_spin,.int .i64 c_yld,.bool c_single]] ((.int .i64 (confRoom (Config.mk c_lg c_th c_pol c_wt c_spin c_yld c_single))),[],[]):=by
  refine mcb_of_vc mix x103 (by simp [F103]) fun hw _=>?_
  simp only [wfs,AV.wf,inR_i64] at hw
  repeat' with_reducible first|refine gTn_of (fun h=>?_) (fun h=>?_)|refine gT_of (fun h=>?_) (fun h=>?_)|refine caseTn_of (fun h=>?_) (fun h=>?_)|refine caseT_of (fun h=>?_) (fun h=>?_)|refine fin_pure ?_ ?_ ?_ ?_|refine kv_ifn ?_ ?_|refine kv_if ?_ ?_|refine k_if ?_ ?_|refine P0 (con123) ?_ ?_ ?_|refine ACV.of (con123) ?_ ?_ ?_|refine ACK.of (con123) ?_ ?_|simp -implicitDefEqProofs only [F103,qA,doLd,doSt,splice,doEqs,qU,List.reduceReplicate,Nat.reduceAdd,Nat.reduceSub,Nat.reduceLeDiff,Nat.reduceEqDiff,Nat.reduceMul,reduceIte,reduceCtorEq,i_shl, *]
  all_goals (try simp only [decide_eq_true_eq,decide_eq_false_iff_not,Bool.not_eq_true,Bool.not_eq_false] at *)
  all_goals (try (have hlg:=conf_lg (by assumption); simp only [] at hlg))
  all_goals (try (rw [conf_no (by assumption)]; done))
  all_goals (try (have hsh:=conf_shl2 (by assumption); simp only [] at hsh))
  all_goals first
    | (simp; done)
    | exact idxF_any
    | exact idxF_any.symm
    | grind [inR_i64,wrap64,maxLen_eq]

def F232:AFn:=⟨42,(.seq (.reg [o1 8 (.mv (.const .slnil)),o1 9 (.mv (ci 0))]) (.seq (.reg [o1 11 (.mv 0),o1 12 (.len 11),o1 13 (.mkslice 145 2 [(.int .i64 0),(.int .i64 0)] 16 12 12),o1 10 (.mv 13)]) (.seq (.reg [o1 14 (.mv 10),o1 15 (.mv 0),o1 16 (.cpy 2 14 15)]) (.seq (.block 0 (.seq (.reg [o1 18 (.mv 1),o1 19 (.bin .lss 18 (ci 0)),o1 20 (.mv 19),o4 21 (.mv 0) 20,o4 22 (.call 107 [21]) 20,o4 23 (.not 22) 20,o1 24 (.pick 20 (.const (.bool true)) 23),o1 17 (.mv 24)]) (.cond 17 (.seq (.reg [o1 25 (.mv 10),o1 8 (.mv 25),o1 9 (.mv (ci 40))]) .ret) (.seq (.reg [o1 27 (.mv 0),o1 28 (.mv 1),o1 29 (.call 271 [27,28]),o1 30 (.not 29),o1 26 (.mv 30)]) (.cond 26 (.seq (.reg [o1 31 (.mv 10),o1 32 (.mv 2),o1 8 (.mv 31),o1 9 (.mv 32)]) .ret) .skip))))) (.seq (.reg [o1 33 (.mv 3),o1 34 (.mv 10),o1 35 (.mv 1),o1 36 (.mv 0),o1 37 (.len 36),o1 38 (.call 131 [35,37]),o1 39 (.iaddr 2 34 38),o1 40 (.callv 33 [39])]) (.seq (.reg [o1 41 (.mv 10),o1 8 (.mv 41),o1 9 (.mv (ci 0))]) .ret)))))),[(8,none),(9,none)]⟩
theorem x232:xf Tryz.prog 232=some F232:=by kernel_rfl
theorem lf232:F232.code.lf=true:=rfl
def F233:AFn:=⟨7,(.reg [o1 3 (.mv 0),o1 4 (.ld 1 false 1),o1 5 (.nilchk 3),o1 6 (.faddr 1 5),o2 (.st 1 6 4)]),[]⟩
theorem x233:xf Tryz.prog 233=some F233:=by kernel_rfl
theorem lf233:F233.code.lf=true:=rfl
def F241:AFn:=⟨16,(.seq (.seq (.reg [o1 5 (.ld 1 false 1),o1 6 (.bin .gtr 5 (ci 1099511627776))]) (.cond 6 (.seq (.reg [o2 (.st 1 2 (ci 40))]) .ret) .skip)) (.regT [o1 7 (.mv 0),o1 8 (.nilchk 7),o1 9 (.faddr 0 8),o1 10 (.ld 1 false 9),o1 11 (.ld 1 false 3),o1 12 (.len 11),o1 13 (.bin .add 10 12),o1 14 (.nilchk 7),o1 15 (.faddr 0 14),o2 (.st 1 15 13)] [(1,4),(2,4),(3,4),(1,5),(2,5),(3,5)])),[]⟩
theorem x241:xf Tryz.prog 241=some F241:=by kernel_rfl
theorem lf241:F241.code.lf=true:=rfl
def F145:AFn:=⟨14,(.seq (.reg [o1 5 (.box 3 2),o1 6 (.mv (.const .slnil)),o1 7 (.mv (ci 0))]) (.seq (.reg [o1 8 (.mv 0),o1 9 (.mv 1),o1 10 (.mkfn (.func 233) [] [5]),o1 11 (.call 232 [8,9,(ci 30),10]),o1 12 (.ext 11 0),o1 13 (.ext 11 1),o1 6 (.mv 12),o1 7 (.mv 13)]) .ret)),[(6,none),(7,none)]⟩
theorem x145:xf Tryz.prog 145=some F145:=by kernel_rfl
theorem con145 {l:List Slot} {p val:Int} (hl:l.length≤1000000000):Con Tryz.prog 145 [.slv 2 (l.map encS),.int .i64 p,.int .i64 val] (.tup [.slv 2 ((slotWrite l p val).1.map encS),.int .i64 (slotWrite l p val).2],[],[]):=by
  refine mcb_of_vc mix x145 (by simp [F145]) fun hw _=>?_
  simp only [wfs,AV.wf,inR_i64,List.length_map] at hw
  repeat' with_reducible first|refine gTn_of (fun h=>?_) (fun h=>?_)|refine gT_of (fun h=>?_) (fun h=>?_)|refine caseTn_of (fun h=>?_) (fun h=>?_)|refine caseT_of (fun h=>?_) (fun h=>?_)|refine FN ?_ ?_ ?_ ?_ rfl ?_|refine kv_ifn ?_ ?_|refine kv_if ?_ ?_|refine k_if ?_ ?_|refine I0 mix x232 lf232 ?_ ?_ ?_ ?_ ?_|refine I0 mix x233 lf233 ?_ ?_ ?_ ?_ ?_|refine IA ?_ ?_ ?_|refine L1 ?_ ?_|refine L2 ?_ ?_|refine L3 ?_ ?_ ?_ ?_|refine L4 ?_ ?_|refine L5 ?_ ?_ ?_ ?_ ?_|refine L6 ?_ ?_ ?_ ?_ ?_|refine P0 (con107 ?_) ?_ ?_ ?_|refine ACV.of (con107 ?_) ?_ ?_ ?_|refine ACK.of (con107 ?_) ?_ ?_|refine P0 (con271 ?_) ?_ ?_ ?_|refine ACV.of (con271 ?_) ?_ ?_ ?_|refine ACK.of (con271 ?_) ?_ ?_|refine P0 (con131) ?_ ?_ ?_|refine ACV.of (con131) ?_ ?_ ?_|refine ACK.of (con131) ?_ ?_|simp -implicitDefEqProofs only [F145,qA,ld_0,ld_pv,st_0,splice,doEqs,qU,List.reduceReplicate,Nat.reduceAdd,Nat.reduceSub,Nat.reduceLeDiff,Nat.reduceEqDiff,Nat.reduceMul,reduceIte,reduceCtorEq,qI,Nat.reduceLT,Nat.reduceBEq,F232,F233,Int.toNat_natCast,rw_slv,doMkslice, *]
  all_goals (have hA:=posPlace_lo p l.length; have hB:=posPlace_hi p l.length)
  all_goals first
    | (simp at hl ⊢; omega)
    | (refine Wk.of_eq ?_; grind [slotWrite,slotReady,slotCheck,slotAt,inR_i64,wrap64])
    | grind [slotWrite,slotReady,slotCheck,slotAt,inR_i64,wrap64,maxLen_eq]
    | trace_state

def F156:AFn:=⟨20,(.seq (.reg [o1 2 (.box 26 0),o1 3 (.box 3 1),o1 4 (.mv (.const .slnil)),o1 5 (.mv (ci 0))]) (.seq (.reg [o1 6 (.alloc 43 [(.int .i64 0)]),o2 (.st 1 6 (ci 0))]) (.seq (.reg [o1 10 (.ld 1 false 2),o1 11 (.ld 1 false 3),o1 12 (.mkfn (.func 241) [] [3,6,2]),o1 13 (.call 232 [10,11,(ci 40),12]),o1 9 (.mv 13),o1 14 (.ext 9 0),o1 15 (.ext 9 1),o1 7 (.mv 14),o1 8 (.mv 15)]) (.seq (.reg [o1 16 (.mv 7),o1 17 (.ld 1 false 6),o1 18 (.mv 8),o1 19 (.mx 17 18),o1 4 (.mv 16),o1 5 (.mv 19)]) .ret)))),[(4,none),(5,none)]⟩
theorem x156:xf Tryz.prog 156=some F156:=by kernel_rfl
theorem con156 {l:List Slot} {p:Int} (hl:l.length≤1000000000):Con Tryz.prog 156 [.slv 2 (l.map encS),.int .i64 p] (.tup [.slv 2 ((slotRelease l p).1.map encS),.int .i64 (slotRelease l p).2],[],[]):=by
  refine mcb_of_vc mix x156 (by simp [F156]) fun hw _=>?_
  simp only [wfs,AV.wf,inR_i64,List.length_map] at hw
  repeat' with_reducible first|refine gTn_of (fun h=>?_) (fun h=>?_)|refine gT_of (fun h=>?_) (fun h=>?_)|refine caseTn_of (fun h=>?_) (fun h=>?_)|refine caseT_of (fun h=>?_) (fun h=>?_)|refine FN ?_ ?_ ?_ ?_ rfl ?_|refine kv_ifn ?_ ?_|refine kv_if ?_ ?_|refine k_if ?_ ?_|refine I0 mix x232 lf232 ?_ ?_ ?_ ?_ ?_|refine I0 mix x241 lf241 ?_ ?_ ?_ ?_ ?_|refine IA ?_ ?_ ?_|refine L1 ?_ ?_|refine L2 ?_ ?_|refine L3 ?_ ?_ ?_ ?_|refine L4 ?_ ?_|refine L5 ?_ ?_ ?_ ?_ ?_|refine L6 ?_ ?_ ?_ ?_ ?_|refine P0 (con107 ?_) ?_ ?_ ?_|refine ACV.of (con107 ?_) ?_ ?_ ?_|refine ACK.of (con107 ?_) ?_ ?_|refine P0 (con271 ?_) ?_ ?_ ?_|refine ACV.of (con271 ?_) ?_ ?_ ?_|refine ACK.of (con271 ?_) ?_ ?_|refine P0 (con131) ?_ ?_ ?_|refine ACV.of (con131) ?_ ?_ ?_|refine ACK.of (con131) ?_ ?_|simp -implicitDefEqProofs only [F156,qA,ld_0,ld_pv,st_0,splice,doEqs,qU,List.reduceReplicate,Nat.reduceAdd,Nat.reduceSub,Nat.reduceLeDiff,Nat.reduceEqDiff,Nat.reduceMul,reduceIte,reduceCtorEq,qI,Nat.reduceLT,Nat.reduceBEq,F232,F241,Int.toNat_natCast,rw_slv,doMkslice,encS, *]
  all_goals (have hA:=posPlace_lo p l.length; have hB:=posPlace_hi p l.length)
  all_goals first
    | (simp at hl ⊢; omega)
    | (refine Wk.of_eq ?_; grind [slotRelease,slotReady,slotCheck,slotAt,inR_i64,wrap64])
    | grind [slotRelease,slotReady,slotCheck,slotAt,inR_i64,wrap64,maxLen_eq]
    | trace_state

def F152:AFn:=⟨21,(.seq (.reg [o1 4 (.mv (.const .slnil)),o1 5 (.mv (ci 0))]) (.seq (.reg [o1 8 (.mv 0),o1 9 (.call 225 [8]),o1 6 (.mv 9)]) (.seq (.reg [o1 10 (.mv 0),o1 11 (.mv 1),o1 12 (.call 229 [10,11]),o1 7 (.mv 12)]) (.seq (.seq (.reg [o1 13 (.mv 7),o1 14 (.bin .lss 13 (ci 0))]) (.cond 14 (.seq (.reg [o1 15 (.mv 6),o1 4 (.mv 15),o1 5 (.mv (ci 40))]) .ret) .skip)) (.seq (.reg [o1 16 (.mv 6),o1 17 (.mv 7),o1 18 (.mv 7),o1 19 (.bin .add 18 (ci 1)),o1 20 (.call 240 [16,17,19]),o1 4 (.mv 20),o1 5 (.mv (ci 0))]) .ret))))),[(4,none),(5,none)]⟩
theorem x152:xf Tryz.prog 152=some F152:=by kernel_rfl
theorem idxF_lt {α:Type} {p:α→Bool} {l:List α}:idxF p l<l.length:=by
  unfold idxF
  split
  · rename_i i hi; have:=(List.findIdx?_eq_some_iff_getElem.1 hi).1; omega
  · omega
theorem place_nil (id:Int):lPlace [] id=-1:=by simp [lPlace,lCheck,lU,idxF]
theorem con152 {l:List Int} {id:Int} (hl:l.length≤100000000):Con Tryz.prog 152 [.slv 1 (l.map encI),.int .i64 id] (.tup [.slv 1 ((lLeave l id).1.map encI),.int .i64 (lLeave l id).2],[],[]):=by
  by_cases hne:l=[]
  · subst hne
    refine con_nilm ?_ ?_
    all_goals refine mcb_of_vc mix x152 (by simp [F152]) fun hw _=>?_
    repeat' with_reducible first|refine gTn_of (fun h=>?_) (fun h=>?_)|refine gT_of (fun h=>?_) (fun h=>?_)|refine caseTn_of (fun h=>?_) (fun h=>?_)|refine caseT_of (fun h=>?_) (fun h=>?_)|refine fin_alb ?_ ?_ ?_ rfl ?_|refine kv_ifn ?_ ?_|refine kv_if ?_ ?_|refine k_if ?_ ?_|refine P0 con225n ?_ ?_ ?_|refine N1 con225e ?_ ?_|refine N1 (con225g hne ?_) ?_ ?_|refine P0 (con229 ?_) ?_ ?_ ?_|refine P0 (con_w0 (enc:=encI) (con229 (l:=[]) ?_)) ?_ ?_ ?_|refine P0 (con_we (enc:=encI) (con229 (l:=[]) ?_)) ?_ ?_ ?_|refine ACV.of (con229 ?_) ?_ ?_ ?_|refine AC.own1 (conDel2 (l:=[]) (T:=3) ?_ ?_ ?_) ?_ ?_ (by simp -implicitDefEqProofs only [m_get,Nat.reduceEqDiff,reduceIte,if_true,if_false]; first|done|exact rfl) ?_ ?_ ?_ ?_ ?_|simp -implicitDefEqProofs only [F152,qA,ld_0,ld_pv,st_0,splice,doEqs,qU,List.reduceReplicate,Nat.reduceAdd,Nat.reduceSub,Nat.reduceLeDiff,Nat.reduceEqDiff,Nat.reduceMul,reduceIte,reduceCtorEq,qI,Nat.reduceLT,Nat.reduceBEq,up_s,doBslice,Nat.zero_le,place_nil, *]
    all_goals first
      | (simp; done)
      | (simp at hl ⊢; omega)
      | (refine Wk.tup ⟨?_,fun _=>rfl,Wk.refl _,fun _=>rfl,trivial⟩
         first
          | exact Wk.nil _
          | exact Wk.refl _
          | (refine Wk.of_eq ?_; simp [lLeave,lPlace]; done))
      | (refine Wk.of_eq ?_; grind [lLeave])
      | (have hi:=idxF_lt (p:=fun y=>decide (id=y)) (l:=([]:List Int)); grind [lPlace,wrap64,maxLen_eq,inR_i64])
      | (refine Wk.of_eq ?_
         have hi:=idxF_lt (p:=fun y=>decide (id=y)) (l:=([]:List Int))
         have hp:0≤lPlace ([]:List Int) id:=by grind
         have hq:lPlace ([]:List Int) id<([]:List Int).length:=by grind [lPlace]
         have hlen:(([]:List Int).eraseIdx (lPlace ([]:List Int) id).toNat).length=([]:List Int).length - 1:=by rw [List.length_eraseIdx,if_pos (by omega)]
         simp [lLeave,hlen,Int.not_lt.2 hp,List.take_of_length_le,Nat.le_refl]; done)
      | trace_state
  · refine mcb_of_vc mix x152 (by simp [F152]) fun hw _=>?_
    simp only [wfs,AV.wf,inR_i64,List.length_map] at hw
    repeat' with_reducible first|refine gTn_of (fun h=>?_) (fun h=>?_)|refine gT_of (fun h=>?_) (fun h=>?_)|refine caseTn_of (fun h=>?_) (fun h=>?_)|refine caseT_of (fun h=>?_) (fun h=>?_)|refine fin_alb ?_ ?_ ?_ rfl ?_|refine kv_ifn ?_ ?_|refine kv_if ?_ ?_|refine k_if ?_ ?_|refine P0 con225n ?_ ?_ ?_|refine N1 con225e ?_ ?_|refine N1 (con225g hne ?_) ?_ ?_|refine P0 (con229 ?_) ?_ ?_ ?_|refine P0 (con_w0 (enc:=encI) (con229 (l:=[]) ?_)) ?_ ?_ ?_|refine P0 (con_we (enc:=encI) (con229 (l:=[]) ?_)) ?_ ?_ ?_|refine ACV.of (con229 ?_) ?_ ?_ ?_|refine AC.own1 (conDel2 (l:=l) (T:=3) ?_ ?_ ?_) ?_ ?_ (by simp -implicitDefEqProofs only [m_get,Nat.reduceEqDiff,reduceIte,if_true,if_false]; first|done|exact rfl) ?_ ?_ ?_ ?_ ?_|simp -implicitDefEqProofs only [F152,qA,ld_0,ld_pv,st_0,splice,doEqs,qU,List.reduceReplicate,Nat.reduceAdd,Nat.reduceSub,Nat.reduceLeDiff,Nat.reduceEqDiff,Nat.reduceMul,reduceIte,reduceCtorEq,qI,Nat.reduceLT,Nat.reduceBEq,up_s,doBslice,Nat.zero_le, *]
    all_goals first
      | (simp; done)
      | (simp at hl ⊢; omega)
      | (refine Wk.tup ⟨?_,fun _=>rfl,Wk.refl _,fun _=>rfl,trivial⟩
         first
          | exact Wk.nil _
          | exact Wk.refl _
          | (refine Wk.of_eq ?_; simp [lLeave,lPlace]; done))
      | (refine Wk.of_eq ?_; grind [lLeave])
      | (have hi:=idxF_lt (p:=fun y=>decide (id=y)) (l:=l); grind [lPlace,wrap64,maxLen_eq,inR_i64])
      | (refine Wk.of_eq ?_
         have hi:=idxF_lt (p:=fun y=>decide (id=y)) (l:=l)
         have hp:0≤lPlace l id:=by grind
         have hq:lPlace l id<l.length:=by grind [lPlace]
         have hlen:(l.eraseIdx (lPlace l id).toNat).length=l.length - 1:=by rw [List.length_eraseIdx,if_pos (by omega)]
         simp [lLeave,hlen,Int.not_lt.2 hp,List.take_of_length_le,Nat.le_refl]; done)
      | trace_state

def F267:AFn:=⟨3,(.seq (.reg [o1 1 (.box 224 0),o1 2 (.mv (ci 0))]) (.seq (.reg [o1 2 (.mv (ci 0))]) .ret)),[(2,none)]⟩
theorem x267:xf Tryz.prog 267=some F267:=by kernel_rfl
theorem lf267:F267.code.lf=true:=rfl
def F268:AFn:=⟨3,(.seq (.reg [o1 1 (.box 224 0),o1 2 (.mv (ci 0))]) (.seq (.reg [o1 2 (.mv (ci 1))]) .ret)),[(2,none)]⟩
theorem x268:xf Tryz.prog 268=some F268:=by kernel_rfl
theorem lf268:F268.code.lf=true:=rfl
def F270:AFn:=⟨3,(.seq (.reg [o1 1 (.box 224 0),o1 2 (.mv (ci 0))]) (.seq (.reg [o1 2 (.mv (ci 2))]) .ret)),[(2,none)]⟩
theorem x270:xf Tryz.prog 270=some F270:=by kernel_rfl
theorem lf270:F270.code.lf=true:=rfl
def F269:AFn:=⟨27,(.seq (.reg [o1 1 (.box 224 0),o1 2 (.mv (ci 0))]) (.seq (.block 0 (.seq (.reg [o1 4 (.faddr 7 1),o1 5 (.ld 1 false 4),o1 6 (.faddr 0 1),o1 7 (.faddr 4 6),o1 8 (.ld 1 false 7),o1 9 (.bin .lss 5 8),o1 3 (.mv 9)]) (.cond 3 (.seq (.reg [o1 10 (.ld 8 true 1),o1 11 (.call 267 [10]),o1 2 (.mv 11)]) .ret) (.seq (.reg [o1 13 (.faddr 7 1),o1 14 (.ld 1 false 13),o1 15 (.faddr 0 1),o1 16 (.faddr 4 15),o1 17 (.ld 1 false 16),o1 18 (.faddr 0 1),o1 19 (.faddr 5 18),o1 20 (.ld 1 false 19),o1 21 (.bin .add 17 20),o1 22 (.bin .lss 14 21),o1 12 (.mv 22)]) (.cond 12 (.seq (.reg [o1 23 (.ld 8 true 1),o1 24 (.call 268 [23]),o1 2 (.mv 24)]) .ret) .skip))))) (.seq (.reg [o1 25 (.ld 8 true 1),o1 26 (.call 270 [25]),o1 2 (.mv 26)]) .ret))),[(2,none)]⟩
theorem x269:xf Tryz.prog 269=some F269:=by kernel_rfl
theorem lf269:F269.code.lf=true:=rfl
theorem conf_wt {c:Config} (h:confCheck c=0):(c.wt=0∨c.wt=1∨c.wt=2∨c.wt=3)∧0≤c.spin∧c.spin≤8∧0≤c.yld∧c.yld≤8:=by
  unfold confCheck at h
  split at h
  · rename_i hc; by_cases hw:c.wt=2 <;> simp [confOk,within,confTries,hw] at hc <;> omega
  · cases h
theorem conf_ok0 {c:Config} (h:confCheck c=0):confOk c=true:=by
  unfold confCheck at h
  split at h
  · assumption
  · cases h
theorem conf_ok1 {c:Config} (h:¬ confCheck c=0):confOk c=false:=by
  unfold confCheck at h
  split at h
  · exact absurd rfl h
  · rename_i hc; simpa using hc
def F231:AFn:=⟨20,(.seq (.reg [o1 2 (.box 23 0),o1 4 (.mv (ci 0))]) (.seq (.seq (.reg [o1 6 (.ld 7 true 2),o1 7 (.call 123 [6]),o1 8 (.bin .neq 7 (ci 0))]) (.cond 8 (.seq (.reg [o1 4 (.mv (ci 0))]) .ret) .skip)) (.seq (.reg [o1 9 (.mkmap),o2 (.mupd 9 (ci 0) (.func 267)),o2 (.mupd 9 (ci 1) (.func 268)),o2 (.mupd 9 (ci 2) (.func 269)),o2 (.mupd 9 (ci 3) (.func 270)),o1 10 (.mv 9),o1 5 (.mv 10)]) (.seq (.reg [o1 11 (.mv 5),o1 12 (.faddr 3 2),o1 13 (.ld 1 false 12),o1 14 (.lkp .fnnil false 11 13),o1 15 (.ld 7 true 2),o1 16 (.mv 1),o1 17 (.mx 16 (ci 0)),o1 18 (.build [(.int .i64 0),(.int .i64 0),(.int .i64 0),(.int .i64 0),(.int .i64 0),(.int .i64 0),(.bool false),(.int .i64 0)] [(0,7,15),(7,1,17)]),o1 19 (.callv 14 [18]),o1 4 (.mv 19)]) .ret)))),[(4,none)]⟩
theorem x231:xf Tryz.prog 231=some F231:=by kernel_rfl
theorem con231 {c_lg c_th:Int} {c_pol c_wt:Int} {c_spin c_yld:Int} {c_single:Bool} {n:Int}:Con Tryz.prog 231 [.agg [.int .i64 c_lg,.int .i64 c_th,.int .i64 c_pol,.int .i64 c_wt,.int .i64 c_spin,.int .i64 c_yld,.bool c_single],.int .i64 n] (.int .i64 (waitNext (Config.mk c_lg c_th c_pol c_wt c_spin c_yld c_single) n),[],[]):=by
  by_cases hk:confCheck (Config.mk c_lg c_th c_pol c_wt c_spin c_yld c_single)=0
  · obtain ⟨h0,hs1,hs2,hy1,hy2⟩:=conf_wt hk
    have hok:=conf_ok0 hk
    simp only [] at h0 hs1 hs2 hy1 hy2
    rcases h0 with rfl | rfl | rfl | rfl
    all_goals refine mcb_of_vc mix x231 (by simp [F231]) fun hw _=>?_
    all_goals simp only [wfs,AV.wf,inR_i64] at hw
    all_goals
      repeat' with_reducible first|refine gTn_of (fun h=>?_) (fun h=>?_)|refine gT_of (fun h=>?_) (fun h=>?_)|refine caseTn_of (fun h=>?_) (fun h=>?_)|refine caseT_of (fun h=>?_) (fun h=>?_)|refine fin_pure ?_ ?_ ?_ ?_|refine kv_ifn ?_ ?_|refine kv_if ?_ ?_|refine k_if ?_ ?_|refine I0 mix x267 lf267 ?_ ?_ ?_ ?_ ?_|refine I0 mix x268 lf268 ?_ ?_ ?_ ?_ ?_|refine I0 mix x270 lf270 ?_ ?_ ?_ ?_ ?_|refine I0 mix x269 lf269 ?_ ?_ ?_ ?_ ?_|refine IA ?_ ?_ ?_|refine L1 ?_ ?_|refine L2 ?_ ?_|refine L3 ?_ ?_ ?_ ?_|refine L4 ?_ ?_|refine L5 ?_ ?_ ?_ ?_ ?_|refine L6 ?_ ?_ ?_ ?_ ?_|refine P0 (con123) ?_ ?_ ?_|refine ACV.of (con123) ?_ ?_ ?_|refine ACK.of (con123) ?_ ?_|simp -implicitDefEqProofs only [F231,qA,ld_0,ld_pv,st_0,splice,doEqs,qU,List.reduceReplicate,Nat.reduceAdd,Nat.reduceSub,Nat.reduceLeDiff,Nat.reduceEqDiff,Nat.reduceMul,reduceIte,reduceCtorEq,qI,Nat.reduceLT,Nat.reduceBEq,F267,F268,F270,F269,doLkp,mfind,keyEq,AV.isInt,doMupd,Int.reduceEq,Blk.inN,Blk.nms,List.flatMap_cons,List.flatMap_nil, *]
    all_goals first
          | (simp; done)
          | (simp [inlOk,Blk.inN,AV.inN,AV.isInt]; done)
          | grind [waitNext,conf_ok0,conf_ok1,wrap64,inR_i64]
          | trace_state
  · have hok:=conf_ok1 hk
    refine mcb_of_vc mix x231 (by simp [F231]) fun hw _=>?_
    simp only [wfs,AV.wf,inR_i64] at hw
    repeat' with_reducible first|refine gTn_of (fun h=>?_) (fun h=>?_)|refine gT_of (fun h=>?_) (fun h=>?_)|refine caseTn_of (fun h=>?_) (fun h=>?_)|refine caseT_of (fun h=>?_) (fun h=>?_)|refine fin_pure ?_ ?_ ?_ ?_|refine kv_ifn ?_ ?_|refine kv_if ?_ ?_|refine k_if ?_ ?_|refine I0 mix x267 lf267 ?_ ?_ ?_ ?_ ?_|refine I0 mix x268 lf268 ?_ ?_ ?_ ?_ ?_|refine I0 mix x270 lf270 ?_ ?_ ?_ ?_ ?_|refine I0 mix x269 lf269 ?_ ?_ ?_ ?_ ?_|refine IA ?_ ?_ ?_|refine L1 ?_ ?_|refine L2 ?_ ?_|refine L3 ?_ ?_ ?_ ?_|refine L4 ?_ ?_|refine L5 ?_ ?_ ?_ ?_ ?_|refine L6 ?_ ?_ ?_ ?_ ?_|refine P0 (con123) ?_ ?_ ?_|refine ACV.of (con123) ?_ ?_ ?_|refine ACK.of (con123) ?_ ?_|simp -implicitDefEqProofs only [F231,qA,ld_0,ld_pv,st_0,splice,doEqs,qU,List.reduceReplicate,Nat.reduceAdd,Nat.reduceSub,Nat.reduceLeDiff,Nat.reduceEqDiff,Nat.reduceMul,reduceIte,reduceCtorEq,qI,Nat.reduceLT,Nat.reduceBEq,F267,F268,F270,F269,doLkp,mfind,keyEq,AV.isInt,doMupd,Int.reduceEq,Blk.inN,Blk.nms,List.flatMap_cons,List.flatMap_nil, *]
    all_goals first
          | (simp; done)
          | (simp [inlOk,Blk.inN,AV.inN,AV.isInt]; done)
          | grind [waitNext,conf_ok0,conf_ok1,wrap64,inR_i64]
          | trace_state

def F239:AFn:=⟨5,(.seq (.reg [o1 2 (.mv (.const (.bool false)))]) (.seq (.reg [o1 3 (.mv 0),o1 4 (.bin .eql 3 (ci 0)),o1 2 (.mv 4)]) .ret)),[(2,none)]⟩
theorem x239:xf Tryz.prog 239=some F239:=by kernel_rfl
theorem lf239:F239.code.lf=true:=rfl
def F273:AFn:=⟨24,(.seq (.reg [o1 2 (.mv (ci 0)),o1 3 (.mv (.const (.bool false)))]) (.seq (.reg [o1 8 (.mv 0),o1 9 (.nilchk 8),o1 10 (.faddr 0 9),o1 11 (.faddr 1 10),o1 12 (.ld 1 false 11),o1 13 (.call 282 [12]),o1 7 (.mv 13),o1 14 (.ext 7 0),o1 15 (.ext 7 1),o1 16 (.ext 7 2),o1 4 (.mv 14),o1 5 (.mv 15),o1 6 (.mv 16)]) (.seq (.reg [o1 17 (.mv 0),o1 18 (.mv 5),o1 19 (.nilchk 17),o1 20 (.faddr 0 19),o1 21 (.faddr 1 20),o2 (.st 1 21 18)]) (.seq (.reg [o1 22 (.mv 4),o1 23 (.mv 6),o1 2 (.mv 22),o1 3 (.mv 23)]) .ret)))),[(2,none),(3,none)]⟩
theorem x273:xf Tryz.prog 273=some F273:=by kernel_rfl
theorem lf273:F273.code.lf=true:=rfl
def notOut (e:Event):List Int:=if vCheck e then e.ln.take 1 else []
theorem lCheck_next {l:List Int} (h:lCheck l=true):lNext l=match l with | []=>(0,[],false) | x :: r=>(x,r,true):=by
  cases l with
  | nil=>simp [lNext,h]
  | cons x r=>simp [lNext,h]
theorem lCheck_of {e:Event} (h:vCheck e=true):lCheck e.ln=true:=by simp [vCheck] at h; exact h.2
def F238:AFn:=⟨45,(.seq (.reg [o1 2 (.box 29 0),o1 4 (.alloc 29 [(.int .i64 0),.slnil]),o1 5 (.mv (.const .slnil))]) (.seq (.reg [o1 11 (.ld 2 true 2),o1 12 (.call 200 [11]),o1 13 (.build [(.int .i64 0),.slnil] [(0,2,12)]),o1 6 (.alloc 227 [(.int .i64 0),.slnil]),o2 (.st 2 6 13)]) (.seq (.seq (.reg [o1 14 (.ld 2 true 2),o1 15 (.call 109 [14]),o1 16 (.not 15)]) (.cond 16 (.seq (.reg [o1 17 (.faddr 0 6),o1 18 (.ld 2 true 17),o2 (.st 2 4 18),o1 5 (.mv (.const .slnil))]) .ret) .skip)) (.seq (.reg [o1 19 (.faddr 0 6),o1 20 (.faddr 0 19),o1 21 (.ld 1 false 20),o1 22 (.bin .add 21 (ci 1)),o1 23 (.mn 22 (ci 1099511627776)),o1 24 (.faddr 0 6),o1 25 (.faddr 0 24),o2 (.st 1 25 23)]) (.seq (.reg [o1 7 (.mv (.const .slnil))]) (.seq (.reg [o1 26 (.mkfn (.func 273) [6] []),o1 8 (.mv 26)]) (.seq (.block 0 (.loop (.seq (.seq (.reg [o1 27 (.mv 1),o1 28 (.mv 7),o1 29 (.len 28),o1 30 (.callv 27 [29])]) (.cond 30 .skip (.exit 0))) (.block 1 (.seq (.reg [o1 32 (.mv 8),o1 33 (.callv 32 []),o1 31 (.mv 33),o1 34 (.ext 31 0),o1 35 (.ext 31 1),o1 9 (.mv 34),o1 10 (.mv 35)]) (.seq (.seq (.reg [o1 36 (.mv 10),o1 37 (.not 36)]) (.cond 37 (.exit 0) .skip)) (.reg [o1 38 (.mv 7),o1 39 (.mv 9),o1 40 (.bslice 3 1 1 [39]),o1 41 (.app 3 1 8 38 40),o1 7 (.mv 41)]))))))) (.seq (.reg [o1 42 (.faddr 0 6),o1 43 (.ld 2 true 42),o1 44 (.mv 7),o2 (.st 2 4 43),o1 5 (.mv 44)]) .ret)))))))),[(4,some (2,true)),(5,none)]⟩
theorem x238:xf Tryz.prog 238=some F238:=by kernel_rfl
theorem con238n {e_ep:Int} {e_ln:List Int} (hl:e_ln.length≤100000000):Con Tryz.prog 238 [.agg [.int .i64 e_ep,.slv 1 (e_ln.map encI)],.fn (.func 239) [] []] (.tup [.agg (encV (vNotify ⟨e_ep,e_ln⟩).1),.slv 1 ((notOut ⟨e_ep,e_ln⟩).map encI)],[],[]):=by
  by_cases hv:vCheck ⟨e_ep,e_ln⟩=true
  · have hc:=lCheck_of hv
    have hb:0≤e_ep∧e_ep≤1099511627776:=by simp [vCheck] at hv; omega
    simp only [] at hc
    have hN:=lCheck_next hc
    have hcase:(notOut ⟨e_ep,e_ln⟩=[]∧vNotify ⟨e_ep,e_ln⟩=(⟨min (e_ep+1) 1099511627776,[]⟩,0,false)∧lNext e_ln=(0,[],false))∨∃ x l,notOut ⟨e_ep,e_ln⟩=[x]∧vNotify ⟨e_ep,e_ln⟩=(⟨min (e_ep+1) 1099511627776,l⟩,x,true)∧lNext e_ln=(x,l,true):=by
      cases e_ln with
      | nil=>exact .inl ⟨by simp [notOut],by simp [vNotify,hv],hN⟩
      | cons x l=>exact .inr ⟨x,l,by simp [notOut,hv],by simp [vNotify,hv],hN⟩
    have hmin:(if 1099511627776<IntKind.wrap .i64 (e_ep+1) then (1099511627776:Int) else IntKind.wrap .i64 (e_ep+1))=min (e_ep+1) 1099511627776:=by
      have:IntKind.wrap .i64 (e_ep+1)=e_ep+1:=by grind [wrap64]
      rw [this]; split <;> omega
    clear hN
    rcases hcase with ⟨e2,e1,hN⟩ | ⟨x,l,e2,e1,hN⟩
    · rw [e1,e2]
      clear e1 e2
      refine mcb_of_vc mix x238 (by simp [F238]) fun hw _=>?_
      simp only [wfs,AV.wf,inR_i64,List.length_map] at hw
      repeat' with_reducible first|refine gTn_of (fun h=>?_) (fun h=>?_)|refine gT_of (fun h=>?_) (fun h=>?_)|refine caseTn_of (fun h=>?_) (fun h=>?_)|refine caseT_of (fun h=>?_) (fun h=>?_)|refine fin_alb ?_ ?_ ?_ rfl ?_|refine kv_ifn ?_ ?_|refine kv_if ?_ ?_|refine k_if ?_ ?_|refine I0 mix x239 lf239 ?_ ?_ ?_ ?_ ?_|refine I0 mix x273 lf273 ?_ ?_ ?_ ?_ ?_|refine IA ?_ ?_ ?_|refine L1 ?_ ?_|refine L2 ?_ ?_|refine L3 ?_ ?_ ?_ ?_|refine L4 ?_ ?_|refine L5 ?_ ?_ ?_ ?_ ?_|refine L6 ?_ ?_ ?_ ?_ ?_|refine lp_unroll 2 ?_ ?_|refine And.intro (Nat.le_of_ble_eq_true rfl) ?_|refine P0 (con109 ?_) ?_ ?_ ?_|refine ACV.of (con109 ?_) ?_ ?_ ?_|refine ACK.of (con109 ?_) ?_ ?_|refine P0 (con200 ?_) ?_ ?_ ?_|refine ACV.of (con200 ?_) ?_ ?_ ?_|refine ACK.of (con200 ?_) ?_ ?_|refine P0 (con282 ?_) ?_ ?_ ?_|refine ACV.of (con282 ?_) ?_ ?_ ?_|refine ACK.of (con282 ?_) ?_ ?_|simp -implicitDefEqProofs only [F238,qA,ld_0,ld_pv,st_0,splice,doEqs,qU,List.reduceReplicate,Nat.reduceAdd,Nat.reduceSub,Nat.reduceLeDiff,Nat.reduceEqDiff,Nat.reduceMul,reduceIte,reduceCtorEq,qI,Nat.reduceLT,Nat.reduceBEq,F239,F273,encV,Int.toNat_natCast,rw_slv,doBslice,Int.natCast_zero,Int.natCast_one,Int.reduceEq,Int.reduceNe,Int.one_ne_zero, *]
      all_goals first
        | omega
        | (simp at hl ⊢; omega)
        | exact Wk.tup ⟨Wk.refl _,id,Wk.nil _,id,trivial⟩
        | trace_state
    · rw [e1,e2]
      clear e1 e2
      refine mcb_of_vc mix x238 (by simp [F238]) fun hw _=>?_
      simp only [wfs,AV.wf,inR_i64,List.length_map] at hw
      repeat' with_reducible first|refine gTn_of (fun h=>?_) (fun h=>?_)|refine gT_of (fun h=>?_) (fun h=>?_)|refine caseTn_of (fun h=>?_) (fun h=>?_)|refine caseT_of (fun h=>?_) (fun h=>?_)|refine fin_alb ?_ ?_ ?_ rfl ?_|refine kv_ifn ?_ ?_|refine kv_if ?_ ?_|refine k_if ?_ ?_|refine I0 mix x239 lf239 ?_ ?_ ?_ ?_ ?_|refine I0 mix x273 lf273 ?_ ?_ ?_ ?_ ?_|refine IA ?_ ?_ ?_|refine L1 ?_ ?_|refine L2 ?_ ?_|refine L3 ?_ ?_ ?_ ?_|refine L4 ?_ ?_|refine L5 ?_ ?_ ?_ ?_ ?_|refine L6 ?_ ?_ ?_ ?_ ?_|refine lp_unroll 2 ?_ ?_|refine And.intro (Nat.le_of_ble_eq_true rfl) ?_|refine P0 (con109 ?_) ?_ ?_ ?_|refine ACV.of (con109 ?_) ?_ ?_ ?_|refine ACK.of (con109 ?_) ?_ ?_|refine P0 (con200 ?_) ?_ ?_ ?_|refine ACV.of (con200 ?_) ?_ ?_ ?_|refine ACK.of (con200 ?_) ?_ ?_|refine P0 (con282 ?_) ?_ ?_ ?_|refine ACV.of (con282 ?_) ?_ ?_ ?_|refine ACK.of (con282 ?_) ?_ ?_|simp -implicitDefEqProofs only [F238,qA,ld_0,ld_pv,st_0,splice,doEqs,qU,List.reduceReplicate,Nat.reduceAdd,Nat.reduceSub,Nat.reduceLeDiff,Nat.reduceEqDiff,Nat.reduceMul,reduceIte,reduceCtorEq,qI,Nat.reduceLT,Nat.reduceBEq,F239,F273,encV,Int.toNat_natCast,rw_slv,doBslice,Int.natCast_zero,Int.natCast_one,Int.reduceEq,Int.reduceNe,Int.one_ne_zero, *]
      all_goals first
        | omega
        | (simp at hl ⊢; omega)
        | exact Wk.refl _
        | trace_state
  · have hv':vCheck ⟨e_ep,e_ln⟩=false:=by simpa using hv
    have e1:vNotify ⟨e_ep,e_ln⟩=(⟨e_ep,e_ln⟩,0,false):=by simp [vNotify,hv]
    have e2:notOut ⟨e_ep,e_ln⟩=[]:=by simp [notOut,hv]
    rw [e1,e2]
    refine mcb_of_vc mix x238 (by simp [F238]) fun hw _=>?_
    simp only [wfs,AV.wf,inR_i64,List.length_map] at hw
    repeat' with_reducible first|refine gTn_of (fun h=>?_) (fun h=>?_)|refine gT_of (fun h=>?_) (fun h=>?_)|refine caseTn_of (fun h=>?_) (fun h=>?_)|refine caseT_of (fun h=>?_) (fun h=>?_)|refine fin_alb ?_ ?_ ?_ rfl ?_|refine kv_ifn ?_ ?_|refine kv_if ?_ ?_|refine k_if ?_ ?_|refine I0 mix x239 lf239 ?_ ?_ ?_ ?_ ?_|refine I0 mix x273 lf273 ?_ ?_ ?_ ?_ ?_|refine IA ?_ ?_ ?_|refine L1 ?_ ?_|refine L2 ?_ ?_|refine L3 ?_ ?_ ?_ ?_|refine L4 ?_ ?_|refine L5 ?_ ?_ ?_ ?_ ?_|refine L6 ?_ ?_ ?_ ?_ ?_|refine lp_unroll 2 ?_ ?_|refine And.intro (Nat.le_of_ble_eq_true rfl) ?_|refine P0 (con109 ?_) ?_ ?_ ?_|refine ACV.of (con109 ?_) ?_ ?_ ?_|refine ACK.of (con109 ?_) ?_ ?_|refine P0 (con200 ?_) ?_ ?_ ?_|refine ACV.of (con200 ?_) ?_ ?_ ?_|refine ACK.of (con200 ?_) ?_ ?_|refine P0 (con282 ?_) ?_ ?_ ?_|refine ACV.of (con282 ?_) ?_ ?_ ?_|refine ACK.of (con282 ?_) ?_ ?_|simp -implicitDefEqProofs only [F238,qA,ld_0,ld_pv,st_0,splice,doEqs,qU,List.reduceReplicate,Nat.reduceAdd,Nat.reduceSub,Nat.reduceLeDiff,Nat.reduceEqDiff,Nat.reduceMul,reduceIte,reduceCtorEq,qI,Nat.reduceLT,Nat.reduceBEq,F239,F273,encV,Int.toNat_natCast,rw_slv,doBslice,Int.natCast_zero,Int.natCast_one,Int.reduceEq,Int.reduceNe,Int.one_ne_zero, *]
    all_goals first
      | omega
        | (simp at hl ⊢; omega)
      | exact Wk.tup ⟨Wk.refl _,id,Wk.nil _,id,trivial⟩
      | trace_state

theorem notOut_len {e:Event} (h:(notOut e).length=0):(vNotify e).2.1=0∧(vNotify e).2.2=false:=by
  unfold notOut vNotify at *
  split at h
  · rename_i hv
    simp only [hv]
    cases hl:e.ln with
    | nil=>simp
    | cons x l=>rw [hl] at h; simp at h
  · rename_i hv; simp [hv]
theorem notOut_get {e:Event} (h:¬ (notOut e).length=0):0<(notOut e).length∧(notOut e).getD 0 default=(vNotify e).2.1∧(vNotify e).2.2=true:=by
  unfold notOut vNotify at *
  split at h
  · rename_i hv
    simp only [hv,if_true]
    cases hl:e.ln with
    | nil=>rw [hl] at h; simp at h
    | cons x l=>simp
  · simp at h
def F149:AFn:=⟨20,(.seq (.reg [o1 1 (.box 29 0),o1 2 (.alloc 29 [(.int .i64 0),.slnil]),o1 3 (.mv (ci 0)),o1 4 (.mv (.const (.bool false)))]) (.seq (.reg [o1 8 (.ld 2 true 1),o1 9 (.call 238 [8,(.func 239)]),o1 7 (.mv 9),o1 10 (.ext 7 0),o1 11 (.ext 7 1),o1 5 (.alloc 29 [(.int .i64 0),.slnil]),o2 (.st 2 5 10),o1 6 (.mv 11)]) (.seq (.seq (.reg [o1 12 (.mv 6),o1 13 (.len 12),o1 14 (.bin .eql 13 (ci 0))]) (.cond 14 (.seq (.reg [o1 15 (.ld 2 true 5),o2 (.st 2 2 15),o1 3 (.mv (ci 0)),o1 4 (.mv (.const (.bool false)))]) .ret) .skip)) (.seq (.regT [o1 16 (.ld 2 true 5),o1 17 (.mv 6),o1 18 (.iaddr 1 17 (ci 0)),o1 19 (.ld 1 false 18),o2 (.st 2 2 16),o1 3 (.mv 19),o1 4 (.mv (.const (.bool true)))] [(0,2),(0,3),(2,4),(3,4)]) .ret)))),[(2,some (2,true)),(3,none),(4,none)]⟩
theorem x149:xf Tryz.prog 149=some F149:=by kernel_rfl
theorem con149 {e_ep:Int} {e_ln:List Int} (hl:e_ln.length≤100000000):Con Tryz.prog 149 [.agg [.int .i64 e_ep,.slv 1 (e_ln.map encI)]] ((.tup [.agg (encV ((vNotify (Event.mk e_ep e_ln)).1)),.int .i64 ((vNotify (Event.mk e_ep e_ln)).2.1),.bool ((vNotify (Event.mk e_ep e_ln)).2.2)]),[],[]):=by
  refine mcb_of_vc mix x149 (by simp [F149]) fun hw _=>?_
  simp only [wfs,AV.wf,inR_i64] at hw
  repeat' with_reducible first|refine gTn_of (fun h=>?_) (fun h=>?_)|refine gT_of (fun h=>?_) (fun h=>?_)|refine caseTn_of (fun h=>?_) (fun h=>?_)|refine caseT_of (fun h=>?_) (fun h=>?_)|refine fin_pure ?_ ?_ ?_ ?_|refine kv_ifn ?_ ?_|refine kv_if ?_ ?_|refine k_if ?_ ?_|refine P0 (con238n ?_) ?_ ?_ ?_|refine ia_of (d:=default) ?_ ?_|simp -implicitDefEqProofs only [F149,qA,doLd,doSt,splice,doEqs,qU,List.reduceReplicate,Nat.reduceAdd,Nat.reduceSub,Nat.reduceLeDiff,Nat.reduceEqDiff,Nat.reduceMul,reduceIte,reduceCtorEq,encV,encI,len_slv,List.length_map, *]
  all_goals first
    | (simp; done)
    | exact idxF_any
    | exact idxF_any.symm
    | grind [inR_i64,wrap64,maxLen_eq,notOut_len,notOut_get]

def F207:AFn:=⟨11,(.seq (.reg [o1 3 (.mv (.const (.bool false)))]) (.seq (.reg [o1 4 (.mv 0),o1 5 (.bin .lss 4 (ci 0)),o1 6 (.mv 5),o4 7 (.mv 0) 6,o4 8 (.ld 1 false 1) 6,o4 9 (.bin .geq 7 8) 6,o1 10 (.pick 6 (.const (.bool true)) 9),o1 3 (.mv 10)]) .ret)),[(3,none)]⟩
theorem x207:xf Tryz.prog 207=some F207:=by kernel_rfl
theorem con207 {x th:Int}  : Con Tryz.prog 207 [.int .i64 x,.pv [.int .i64 th]] ((.bool ((decide (x<0) || decide (x≥th)))),[],[]):=by
  refine mcb_of_vc mix x207 (by simp [F207]) fun hw _=>?_
  simp only [wfs,AV.wf,inR_i64] at hw
  repeat' with_reducible first|refine gTn_of (fun h=>?_) (fun h=>?_)|refine gT_of (fun h=>?_) (fun h=>?_)|refine caseTn_of (fun h=>?_) (fun h=>?_)|refine caseT_of (fun h=>?_) (fun h=>?_)|refine fin_pure ?_ ?_ ?_ ?_|refine kv_ifn ?_ ?_|refine kv_if ?_ ?_|refine k_if ?_ ?_|simp -implicitDefEqProofs only [F207,qA,doLd,doSt,splice,doEqs,qU,List.reduceReplicate,Nat.reduceAdd,Nat.reduceSub,Nat.reduceLeDiff,Nat.reduceEqDiff,Nat.reduceMul,reduceIte,reduceCtorEq,ld_pv, *]
  all_goals first
    | (simp; done)
    | exact idxF_any
    | exact idxF_any.symm
    | grind [inR_i64,wrap64,maxLen_eq]

def amongAll (th:Int) (a b c d:List Int):Bool:=amongOk th a && amongOk th b && amongOk th c && amongOk th d
def F108:AFn:=⟨24,(.seq (.reg [o1 2 (.box 3 0),o1 4 (.mv (.const (.bool false)))]) (.seq (.reg [o1 8 (.mkfn (.func 207) [] [2]),o1 5 (.mv 8)]) (.seq (.seq (.reg [o1 9 (.mv 1),o1 10 (.len 9),o1 11 (.mv (ci 0))]) (.block 0 (.loop (.seq (.reg [o1 12 (.bin .lss 11 10)]) (.seq (.cond 12 .skip (.exit 0)) (.seq (.block 1 (.seq (.reg [o1 13 (.iaddr 1 9 11),o1 14 (.ld 1 false 13),o1 7 (.mv 14)]) (.seq (.reg [o1 15 (.mv 7),o1 16 (.call 208 [15]),o1 17 (.not 16),o1 18 (.mv 17),o4 19 (.mv 7) 18,o4 20 (.mv 5) 18,o4 21 (.call 209 [19,20]) 18,o1 22 (.pick 18 (.const (.bool true)) 21)]) (.cond 22 (.seq (.reg [o1 4 (.mv (.const (.bool false)))]) .ret) .skip)))) (.reg [o1 23 (.bin .add 11 (ci 1)),o1 11 (.mv 23)]))))))) (.seq (.reg [o1 4 (.mv (.const (.bool true)))]) .ret)))),[(4,none)]⟩
theorem x108:xf Tryz.prog 108=some F108:=by kernel_rfl
theorem c4:((4:Nat):Int)=4:=rfl
theorem wr_1:IntKind.wrap .i64 1=1:=by decide
theorem wr_2:IntKind.wrap .i64 2=2:=by decide
theorem wr_3:IntKind.wrap .i64 3=3:=by decide
theorem wr_4:IntKind.wrap .i64 4=4:=by decide
theorem wrap_1:IntKind.wrap .i64 (0+1)=1:=by decide
theorem wrap_2:IntKind.wrap .i64 (1+1)=2:=by decide
theorem wrap_3:IntKind.wrap .i64 (2+1)=3:=by decide
theorem wrap_4:IntKind.wrap .i64 (3+1)=4:=by decide
theorem un_4 {P:Program} {b0:Nat} {ac:ACode} {K:KX} {env:List AV} {m:AM} {b:Nat}:UnR P b0 ac K 4 env m b=vc P b0 ac (unK b0 (UnR P b0 ac K 3) K) env m b:=rfl
theorem un_5 {P:Program} {b0:Nat} {ac:ACode} {K:KX} {env:List AV} {m:AM} {b:Nat}:UnR P b0 ac K 5 env m b=vc P b0 ac (unK b0 (UnR P b0 ac K 4) K) env m b:=rfl
theorem con108 {th:Int} {a b c d:List Int} (ha:a.length≤100000000) (hb:b.length≤100000000) (hc:c.length≤100000000) (hd:d.length≤100000000):Con Tryz.prog 108 [.int .i64 th,.slv 1 [[.slv 1 (a.map encI)],[.slv 1 (b.map encI)],[.slv 1 (c.map encI)],[.slv 1 (d.map encI)]]] (.bool (amongAll th a b c d),[],[]):=by
  refine mcb_of_vc mix x108 (by simp [F108]) fun hw _=>?_
  simp only [wfs,AV.wf,inR_i64,List.length_map] at hw
  repeat' with_reducible first|refine gTn_of (fun h=>?_) (fun h=>?_)|refine gT_of (fun h=>?_) (fun h=>?_)|refine caseTn_of (fun h=>?_) (fun h=>?_)|refine caseT_of (fun h=>?_) (fun h=>?_)|refine fin_pure ?_ ?_ ?_ ?_|refine kv_ifn ?_ ?_|refine kv_if ?_ ?_|refine k_if ?_ ?_|refine ACV.of (con209 (p:=fun id=>decide (id<0) || decide (id≥th)) (caps:=[.pv [.int .i64 th]]) rfl (fun x _=>con207)) ?_ ?_ ?_|refine AC.viewAll ?_ ?_ ?_|refine lp_unroll 5 ?_ ?_|refine And.intro (Nat.le_of_ble_eq_true rfl) ?_|refine P0 (con208 ?_) ?_ ?_ ?_|refine ACV.of (con208 ?_) ?_ ?_ ?_|refine ACK.of (con208 ?_) ?_ ?_|simp -implicitDefEqProofs only [F108,qA,ld_0,ld_pv,st_0,splice,doEqs,qU,List.reduceReplicate,Nat.reduceAdd,Nat.reduceSub,Nat.reduceLeDiff,Nat.reduceEqDiff,Nat.reduceMul,reduceIte,reduceCtorEq,qI,Nat.reduceLT,Nat.reduceBEq,un_4,un_5,Int.toNat_natCast,doIaddr,List.getD_cons_zero,List.getD_cons_succ,Int.natCast_zero,Int.natCast_one,Int.reduceLT,Int.reduceLE,Int.reduceAdd,Int.reduceToNat,c4,wr_1,wr_2,wr_3,wr_4,wrap_1,wrap_2,wrap_3,wrap_4,Int.toNat_one,Int.toNat_zero, *]
  all_goals first
    | omega
    | (simp; done)
    | grind [amongAll,amongOk]
    | trace_state

def F104:AFn:=⟨6,(.seq (.reg [o1 1 (.box 48 0),o1 2 (.mv (.const (.bool false)))]) (.seq (.reg [o1 3 (.ld 11 true 1),o1 4 (.call 105 [3]),o1 5 (.not 4),o1 2 (.mv 5)]) .ret)),[(2,none)]⟩
theorem x104:xf Tryz.prog 104=some F104:=by kernel_rfl
theorem con104 {t_st t_kind:Int} {t_val t_untl:Int} {t_pc t_reg:Int} {t_seen t_tries:Int} {t_late:Bool} {t_res t_got:Int}  : Con Tryz.prog 104 [.agg [.int .i64 t_st,.int .i64 t_kind,.int .i64 t_val,.int .i64 t_untl,.int .i64 t_pc,.int .i64 t_reg,.int .i64 t_seen,.int .i64 t_tries,.bool t_late,.int .i64 t_res,.int .i64 t_got]] ((.bool (!tCheck (Thread.mk t_st t_kind t_val t_untl t_pc t_reg t_seen t_tries t_late t_res t_got))),[],[]):=by
  refine mcb_of_vc mix x104 (by simp [F104]) fun hw _=>?_
  simp only [wfs,AV.wf,inR_i64] at hw
  repeat' with_reducible first|refine gTn_of (fun h=>?_) (fun h=>?_)|refine gT_of (fun h=>?_) (fun h=>?_)|refine caseTn_of (fun h=>?_) (fun h=>?_)|refine caseT_of (fun h=>?_) (fun h=>?_)|refine fin_pure ?_ ?_ ?_ ?_|refine kv_ifn ?_ ?_|refine kv_if ?_ ?_|refine k_if ?_ ?_|refine P0 (con105) ?_ ?_ ?_|refine ACV.of (con105) ?_ ?_ ?_|refine ACK.of (con105) ?_ ?_|simp -implicitDefEqProofs only [F104,qA,doLd,doSt,splice,doEqs,qU,List.reduceReplicate,Nat.reduceAdd,Nat.reduceSub,Nat.reduceLeDiff,Nat.reduceEqDiff,Nat.reduceMul,reduceIte,reduceCtorEq, *]
  all_goals first
    | (simp; done)
    | exact idxF_any
    | exact idxF_any.symm
    | grind [inR_i64,wrap64,maxLen_eq]

theorem con104t (x:Thread):Con Tryz.prog 104 (.agg (encT x) :: []) (.bool (!tCheck x),[],[]):=con104
def F33:AFn:=⟨68,(.seq (.reg [o1 1 (.box 33 0),o1 2 (.mv (.const (.bool false)))]) (.seq (.reg [o1 5 (.faddr 0 1),o1 6 (.ld 7 true 5),o1 7 (.call 103 [6]),o1 3 (.mv 7)]) (.seq (.reg [o1 4 (.mv (.func 104))]) (.seq (.block 0 (.seq (.seq (.reg [o1 9 (.mv 3),o1 10 (.bin .eql 9 (ci 0)),o1 8 (.mv 10)]) (.cond 8 .skip (.seq (.reg [o1 11 (.faddr 7 1),o1 12 (.ld 3 true 11),o1 13 (.mv 3),o1 14 (.call 106 [12,13]),o1 15 (.not 14),o1 8 (.mv 15)]) (.cond 8 .skip (.seq (.reg [o1 16 (.faddr 10 1),o1 17 (.ld 1 false 16),o1 18 (.len 17),o1 19 (.mv 3),o1 20 (.bin .neq 18 19),o1 8 (.mv 20)]) (.cond 8 .skip (.reg [o1 21 (.faddr 10 1),o1 22 (.ld 1 false 21),o1 23 (.call 107 [22]),o1 24 (.not 23),o1 8 (.mv 24)]))))))) (.cond 8 (.seq (.reg [o1 2 (.mv (.const (.bool false)))]) .ret) (.seq (.seq (.reg [o1 26 (.faddr 0 1),o1 27 (.faddr 1 26),o1 28 (.ld 1 false 27),o1 29 (.faddr 11 1),o1 30 (.ld 1 false 29),o1 31 (.faddr 12 1),o1 32 (.ld 1 false 31),o1 33 (.faddr 13 1),o1 34 (.faddr 1 33),o1 35 (.ld 1 false 34),o1 36 (.faddr 15 1),o1 37 (.faddr 1 36),o1 38 (.ld 1 false 37),o1 39 (.bslice 27 1 4 [30,32,35,38]),o1 40 (.call 108 [28,39]),o1 41 (.not 40),o1 25 (.mv 41)]) (.cond 25 .skip (.seq (.reg [o1 42 (.faddr 13 1),o1 43 (.ld 2 true 42),o1 44 (.call 109 [43]),o1 45 (.not 44),o1 25 (.mv 45)]) (.cond 25 .skip (.reg [o1 46 (.faddr 15 1),o1 47 (.ld 2 true 46),o1 48 (.call 109 [47]),o1 49 (.not 48),o1 25 (.mv 49)]))))) (.cond 25 (.seq (.reg [o1 2 (.mv (.const (.bool false)))]) .ret) (.seq (.seq (.reg [o1 51 (.faddr 17 1),o1 52 (.ld 1 false 51),o1 53 (.bin .lss 52 (ci 0)),o1 50 (.mv 53)]) (.cond 50 .skip (.seq (.reg [o1 54 (.faddr 17 1),o1 55 (.ld 1 false 54),o1 56 (.bin .gtr 55 (ci 1099511627776)),o1 50 (.mv 56)]) (.cond 50 .skip (.seq (.reg [o1 57 (.faddr 18 1),o1 58 (.ld 1 false 57),o1 59 (.len 58),o1 60 (.faddr 0 1),o1 61 (.faddr 1 60),o1 62 (.ld 1 false 61),o1 63 (.bin .neq 59 62),o1 50 (.mv 63)]) (.cond 50 .skip (.reg [o1 64 (.faddr 18 1),o1 65 (.ld 1 false 64),o1 66 (.mv 4),o1 67 (.call 110 [65,66]),o1 50 (.mv 67)]))))))) (.cond 50 (.seq (.reg [o1 2 (.mv (.const (.bool false)))]) .ret) .skip))))))) (.seq (.reg [o1 2 (.mv (.const (.bool true)))]) .ret))))),[(2,none)]⟩
theorem x33:xf Tryz.prog 33=some F33:=by kernel_rfl
theorem con33 {s_lg s_th:Int} {s_pol s_wt:Int} {s_spin s_yld:Int} {s_single:Bool} {s_h s_t s_m:Int} {s_slots:List Slot} {s_sends s_recvs:List Int} {s_fe:Int} {s_fl:List Int} {s_ee:Int} {s_el:List Int} {s_now:Int} {s_thr:List Thread} {s_log:List Entry} (h1:s_slots.length≤100000000) (h2:s_sends.length≤100000000) (h3:s_recvs.length≤100000000) (h4:s_fl.length≤100000000) (h5:s_el.length≤100000000) (h6:s_thr.length≤100000000) (h7:s_log.length≤100000000):Con Tryz.prog 33 [.agg [.int .i64 s_lg,.int .i64 s_th,.int .i64 s_pol,.int .i64 s_wt,.int .i64 s_spin,.int .i64 s_yld,.bool s_single,.int .i64 s_h,.int .i64 s_t,.int .i64 s_m,.slv 2 (s_slots.map encS),.slv 1 (s_sends.map encI),.slv 1 (s_recvs.map encI),.int .i64 s_fe,.slv 1 (s_fl.map encI),.int .i64 s_ee,.slv 1 (s_el.map encI),.int .i64 s_now,.slv 11 (s_thr.map encT),.slv 5 (s_log.map encE)]] (.bool (fabCheck (State.mk (Config.mk s_lg s_th s_pol s_wt s_spin s_yld s_single) (Word.mk s_h s_t s_m) s_slots s_sends s_recvs (Event.mk s_fe s_fl) (Event.mk s_ee s_el) s_now s_thr s_log)),[],[]):=by
  refine mcb_of_vc mix x33 (by simp [F33]) fun hw _=>?_
  simp only [wfs,AV.wf,inR_i64,List.length_map] at hw
  repeat' with_reducible first|refine gTn_of (fun h=>?_) (fun h=>?_)|refine gT_of (fun h=>?_) (fun h=>?_)|refine caseTn_of (fun h=>?_) (fun h=>?_)|refine caseT_of (fun h=>?_) (fun h=>?_)|refine fin_pure ?_ ?_ ?_ ?_|refine kv_ifn ?_ ?_|refine kv_if ?_ ?_|refine k_if ?_ ?_|refine P0 (con110 (p:=fun t=>!tCheck t) (caps:=[]) rfl (fun x _=>con104t x)) ?_ ?_ ?_|refine ACV.of (con108 ?_ ?_ ?_ ?_) ?_ ?_ ?_|refine AC.viewAll ?_ ?_ ?_|refine P0 (con103) ?_ ?_ ?_|refine ACV.of (con103) ?_ ?_ ?_|refine ACK.of (con103) ?_ ?_|refine P0 (con106) ?_ ?_ ?_|refine ACV.of (con106) ?_ ?_ ?_|refine ACK.of (con106) ?_ ?_|refine P0 (con107 ?_) ?_ ?_ ?_|refine ACV.of (con107 ?_) ?_ ?_ ?_|refine ACK.of (con107 ?_) ?_ ?_|refine P0 (con109 ?_) ?_ ?_ ?_|refine ACV.of (con109 ?_) ?_ ?_ ?_|refine ACK.of (con109 ?_) ?_ ?_|simp -implicitDefEqProofs only [F33,qA,ld_0,ld_pv,st_0,splice,doEqs,qU,List.reduceReplicate,Nat.reduceAdd,Nat.reduceSub,Nat.reduceLeDiff,Nat.reduceEqDiff,Nat.reduceMul,reduceIte,reduceCtorEq,qI,Nat.reduceLT,Nat.reduceBEq,doBslice,encT, *]
  all_goals first
    | omega
    | (simp; done)
    | grind [fabCheck,amongAll]
    | trace_state

end Go.Sak
