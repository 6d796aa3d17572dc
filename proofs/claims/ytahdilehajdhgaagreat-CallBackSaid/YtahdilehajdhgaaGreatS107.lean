/- Part S107 of the proofs about the program: K207, K208. Conditions: none. -/
import Derived.Test.YtahdilehajdhgaaGreatS106
import Derived.Test.YtahdilehajdhgaaGreatS04
import Derived.Test.YtahdilehajdhgaaGreatProg
import Derived.KernelRfl
namespace Go.Sak
open Go Go.RowKit Go.Proofs
set_option linter.unusedVariables false
set_option linter.unusedSimpArgs false
set_option maxRecDepth 10000
set_option maxHeartbeats 8000000
def F105:AFn:=⟨9,(.seq (.reg [o1 2 (.mv (.const (.bool false)))]) (.seq (.reg [o1 3 (.mv 0),o1 4 (.bin .geq 3 (ci 0)),o1 5 (.mv 4),o3 6 (.mv 0) 5,o3 7 (.bin .leq 6 (ci 1099511627776)) 5,o1 8 (.pick 5 7 (.const (.bool false))),o1 2 (.mv 8)]) .ret)),[(2,none)]⟩
theorem x105:xf Tryz.prog 105=some F105:=by kernel_rfl
theorem con105 {tm:Int}  : Con Tryz.prog 105 [.int .i64 tm] ((.bool (dTime tm)),[],[]):=by
  refine mcb_of_vc mix x105 (by simp [F105]) fun hw _=>?_
  simp only [wfs,AV.wf,inR_i64] at hw
  repeat' with_reducible first|refine gTn_of (fun h=>?_) (fun h=>?_)|refine gT_of (fun h=>?_) (fun h=>?_)|refine caseTn_of (fun h=>?_) (fun h=>?_)|refine caseT_of (fun h=>?_) (fun h=>?_)|refine fin_pure ?_ ?_ ?_ ?_|refine kv_ifn ?_ ?_|refine kv_if ?_ ?_|refine k_if ?_ ?_|simp -implicitDefEqProofs only [F105,qA,doLd,doSt,splice,doEqs,qU,List.reduceReplicate,Nat.reduceAdd,Nat.reduceSub,Nat.reduceLeDiff,Nat.reduceEqDiff,Nat.reduceMul,reduceIte,reduceCtorEq, *]
  all_goals first
    | (simp; done)
    | exact idxF_any
    | exact idxF_any.symm
    | grind [inR_i64,wrap64,maxLen_eq,dTime]

def F106:AFn:=⟨9,(.seq (.reg [o1 2 (.mv (.const (.bool false)))]) (.seq (.reg [o1 3 (.mv 0),o1 4 (.bin .geq 3 (ci 0)),o1 5 (.mv 4),o3 6 (.mv 0) 5,o3 7 (.bin .lss 6 (ci 16)) 5,o1 8 (.pick 5 7 (.const (.bool false))),o1 2 (.mv 8)]) .ret)),[(2,none)]⟩
theorem x106:xf Tryz.prog 106=some F106:=by kernel_rfl
theorem con106 {n:Int}  : Con Tryz.prog 106 [.int .i64 n] ((.bool (dId n)),[],[]):=by
  refine mcb_of_vc mix x106 (by simp [F106]) fun hw _=>?_
  simp only [wfs,AV.wf,inR_i64] at hw
  repeat' with_reducible first|refine gTn_of (fun h=>?_) (fun h=>?_)|refine gT_of (fun h=>?_) (fun h=>?_)|refine caseTn_of (fun h=>?_) (fun h=>?_)|refine caseT_of (fun h=>?_) (fun h=>?_)|refine fin_pure ?_ ?_ ?_ ?_|refine kv_ifn ?_ ?_|refine kv_if ?_ ?_|refine k_if ?_ ?_|simp -implicitDefEqProofs only [F106,qA,doLd,doSt,splice,doEqs,qU,List.reduceReplicate,Nat.reduceAdd,Nat.reduceSub,Nat.reduceLeDiff,Nat.reduceEqDiff,Nat.reduceMul,reduceIte,reduceCtorEq, *]
  all_goals first
    | (simp; done)
    | exact idxF_any
    | exact idxF_any.symm
    | grind [inR_i64,wrap64,maxLen_eq,dId]

theorem mf_d {k:Int}:∀ (l:List Due),mfind (.int .i64 k) (l.map entD)=some ((dFind l k).map fun r=>(r.1,.agg (encD r.2)))
  | []=>rfl
  | d :: l=>by
    have ih:=mf_d (k:=k) l
    show mfind (.int .i64 k) ((.int .i64 d.id,.agg (encD d)) :: l.map entD)=_
    by_cases h:k=d.id
    · simp [mfind,keyEq,dFind,h]
    · simp only [mfind,keyEq,dFind,if_true,h,decide_false,ih,if_false,Option.map_some,Option.map_map]
      cases dFind l k <;> rfl
theorem mu_d {κ:Ef→Prop} {f:Nat→Option Blk} {g:Nat} {l:List Due} {n a:Int} (hm:f g=some (.mp (l.map entD))) (hk:κ (.und,[(g,some (.mp ((dPut l ⟨a,n⟩).map entD)))],[g])):okK (doMupd f (.mapm g) (.int .i64 n) (.agg [.int .i64 a,.int .i64 n])) κ:=by
  have:doMupd f (.mapm g) (.int .i64 n) (.agg [.int .i64 a,.int .i64 n])=some { v:=.und,ups:=[(g,some (.mp ((dPut l ⟨a,n⟩).map entD)))],rd:=[g] }:=by
    simp only [doMupd,hm,AV.isInt,if_true,mf_d,Option.map_some,dPut]
    cases dFind l n with
    | none=>simp [entD,encD]
    | some r=>simp [entD,encD,List.map_set]
  rw [this]; exact hk
theorem ml_d {κ:Ef→Prop} {f:Nat→Option Blk} {g:Nat} {l:List Due} {n:Int} (hm:f g=some (.mp (l.map entD))) (hk:κ (.tup [.agg (encD (dGet l n)),.bool (dHas l n)],[],[g])):okK (doLkp f (.agg [.int .i64 0,.int .i64 0]) true (.mapm g) (.int .i64 n)) κ:=by
  have:doLkp f (.agg [.int .i64 0,.int .i64 0]) true (.mapm g) (.int .i64 n)=some { v:=.tup [.agg (encD (dGet l n)),.bool (dHas l n)],rd:=[g] }:=by
    simp only [doLkp,hm,AV.isInt,if_true,mf_d,Option.map_some,dGet,dHas]
    cases dFind l n <;> rfl
  rw [this]; exact hk
theorem md_d {κ:Ef→Prop} {f:Nat→Option Blk} {g:Nat} {l:List Due} {n:Int} (hm:f g=some (.mp (l.map entD))) (hk:κ (.tup [],[(g,some (.mp ((dDel l n).map entD)))],[g])):okK (doMdel f (.mapm g) (.int .i64 n)) κ:=by
  have:doMdel f (.mapm g) (.int .i64 n)=some { v:=.tup [],ups:=[(g,some (.mp ((dDel l n).map entD)))],rd:=[g] }:=by
    simp only [doMdel,hm,AV.isInt,if_true,mf_d,Option.map_some,dDel]
    cases dFind l n with
    | none=>rfl
    | some r=>simp [List.eraseIdx_eq_take_drop_succ,List.map_take,List.map_drop]
  rw [this]; exact hk
theorem mp_in (L:List Nat):∀ (l:List Due),Blk.inN L (.mp (l.map entD))=true:=fun l=>by
  simp only [Blk.inN,List.all_eq_true,List.mem_map]
  rintro p ⟨d,_,rfl⟩
  simp [entD,AV.inN,encD,inNs]
theorem mp_nm (l:List Due):Blk.nms (.mp (l.map entD))=[]:=by
  simp only [Blk.nms,List.flatMap_eq_nil_iff,List.mem_map]
  rintro p ⟨d,_,rfl⟩
  simp [entD,AV.nms,encD,nmsL]
theorem mp_tr (T:Tr) (l:List Due):Blk.tr T (.mp (l.map entD))=.mp (l.map entD):=by
  simp only [Blk.tr,List.map_map]
  congr 1
theorem con88i {g b:Nat} {ds:List Due} (hl:ds.length≤100000):MCb Tryz.prog 88 [.mapm g] (.slv 2 ((dSort ds).map encD),inlU [(g,.mp (ds.map entD))] [(g,.mp (ds.map entD))],[]) (AM.get [(g,.mp (ds.map entD))]) b:=by
  obtain ⟨h1,h2⟩:=con88 (g:=g) (b:=b) hl
  refine ⟨h1,fun c hc hm hU vs hvs=>(h2 c hc hm hU vs hvs).mono ?_⟩
  rintro en w' ⟨c',z,q1,q2,q3,q4,q5,q6,q7⟩
  refine ⟨c',z,q1,q2,q3,q4,?_,q6,q7⟩
  have e:ups (AM.get [(g,.mp (ds.map entD))]) (inlU [(g,.mp (ds.map entD))] [(g,.mp (ds.map entD))])=AM.get [(g,.mp (ds.map entD))]:=by
    rw [← AM.get_upd]; exact (inlU_get (by simp)).symm
  rw [e]; exact q5
set_option linter.defProp false
def qMp:=And.intro (@mp_in) (And.intro (@mp_nm) (@mp_tr))
def F87:AFn:=⟨19,(.seq (.reg [o1 2 (.mv (.const .mapnil))]) (.seq (.reg [o1 6 (.mkmap),o1 3 (.mv 6)]) (.seq (.seq (.reg [o1 7 (.mv 0),o1 8 (.len 7),o1 9 (.mv (ci 0))]) (.block 0 (.loop (.seq (.reg [o1 10 (.bin .lss 9 8)]) (.seq (.cond 10 .skip (.exit 0)) (.seq (.block 1 (.seq (.reg [o1 11 (.iaddr 2 7 9),o1 12 (.ld 2 true 11),o1 5 (.alloc 51 [(.int .i64 0),(.int .i64 0)]),o2 (.st 2 5 12)]) (.reg [o1 13 (.mv 3),o1 14 (.faddr 1 5),o1 15 (.ld 1 false 14),o1 16 (.ld 2 true 5),o2 (.mupd 13 15 16)]))) (.reg [o1 17 (.bin .add 9 (ci 1)),o1 9 (.mv 17)]))))))) (.seq (.reg [o1 18 (.mv 3),o1 2 (.mv 18)]) .ret)))),[(2,none)]⟩
theorem x87:xf Tryz.prog 87=some F87:=by kernel_rfl
theorem con87 {l:List Due} (hl:l.length≤100000):Con Tryz.prog 87 [.slv 2 (l.map encD)] (.mapm 1,[(1,some (.mp ((dueBy l).map entD)))],[]):=by
  refine mcb_of_vc mix x87 (by simp [F87]) fun hw _=>?_
  clear hw
  have zd:=qD
  have zm:=qMp
  repeat' with_reducible first|refine gTn_of (fun h=>?_) (fun h=>?_)|refine gT_of (fun h=>?_) (fun h=>?_)|refine caseTn_of (fun h=>?_) (fun h=>?_)|refine caseT_of (fun h=>?_) (fun h=>?_)|refine FN ?_ ?_ ?_ ?_ rfl ?_|refine kv_ifn ?_ ?_|refine kv_if ?_ ?_|refine k_if ?_ ?_|refine IA ?_ ?_ ?_|refine L1 ?_ ?_|refine L2 ?_ ?_|refine L3 ?_ ?_ ?_ ?_|refine L4 ?_ ?_|refine L5 ?_ ?_ ?_ ?_ ?_|refine L6 ?_ ?_ ?_ ?_ ?_|refine ia_of (d:=default) ?_ ?_|refine mu_d (by simp -implicitDefEqProofs only [m_get,Nat.reduceEqDiff,reduceIte,if_true,if_false]; first|done|exact rfl) ?_|simp -implicitDefEqProofs only [F87,qA,ld_0,ld_pv,st_0,splice,doEqs,qU,List.reduceReplicate,Nat.reduceAdd,Nat.reduceSub,Nat.reduceLeDiff,Nat.reduceEqDiff,Nat.reduceMul,reduceIte,reduceCtorEq,qI,Nat.reduceLT,Nat.reduceBEq,up_s,Int.toNat_natCast,encT,v_invoke,ik_s,nl_s,nl_0,lm_normal,lm_exit,lm_ret,encD, *]
  all_goals first
    | refine lm_of 4 (fun i:Nat=>some (.slv 2 (l.map encD)) :: nl 2 (some (.mapm 2) :: nl 3 (some (.slv 2 (l.map encD)) :: some (.int .i64 l.length) :: some (.int .i64 i) :: nl 9 []))) (fun i=>[(2,.mp ((dueBy (l.take i)).map entD))]) (fun i=>i≤l.length) (fun i=>l.length - i) [] [(17,2)] 0 (by omega) ?_ ?_ ?_ ?_ ?_ ?_
    | omega
    | trace_state
  rotate_right
  · intro i hi
    simp only [all_some,all_none,all_nil,nl_s,nl_0]
    intros
    rcases Nat.lt_or_eq_of_le hi with hlt | heq
    · have hd:((i:Int)<(l.length:Int))=True:=by simp; omega
      have hs:dPut (dueBy (l.take i)) ⟨(l.getD i default).tm,(l.getD i default).id⟩=dueBy (l.take (i+1)):=dueBy_s hlt
      repeat' with_reducible first|refine gTn_of (fun h=>?_) (fun h=>?_)|refine gT_of (fun h=>?_) (fun h=>?_)|refine caseTn_of (fun h=>?_) (fun h=>?_)|refine caseT_of (fun h=>?_) (fun h=>?_)|refine FN ?_ ?_ ?_ ?_ rfl ?_|refine kv_ifn ?_ ?_|refine kv_if ?_ ?_|refine k_if ?_ ?_|refine IA ?_ ?_ ?_|refine L1 ?_ ?_|refine L2 ?_ ?_|refine L3 ?_ ?_ ?_ ?_|refine L4 ?_ ?_|refine L5 ?_ ?_ ?_ ?_ ?_|refine L6 ?_ ?_ ?_ ?_ ?_|refine ia_of (d:=default) ?_ ?_|refine mu_d (by simp -implicitDefEqProofs only [m_get,Nat.reduceEqDiff,reduceIte,if_true,if_false]; first|done|exact rfl) ?_|refine rm_of [] [(2,2)] (i+1) ?_ ?_ ?_ ?_ ?_ ?_|simp -implicitDefEqProofs only [F87,qA,ld_0,ld_pv,st_0,splice,doEqs,qU,List.reduceReplicate,Nat.reduceAdd,Nat.reduceSub,Nat.reduceLeDiff,Nat.reduceEqDiff,Nat.reduceMul,reduceIte,reduceCtorEq,qI,Nat.reduceLT,Nat.reduceBEq,up_s,Int.toNat_natCast,encT,v_invoke,ik_s,nl_s,nl_0,lm_normal,lm_exit,lm_ret,encD, *]
      all_goals first
        | omega
        | rfl
        | (rw [wrap64 (by omega) (by omega)]; omega)
        | trace_state
    · have hd:((i:Int)<(l.length:Int))=False:=by simp; omega
      have hg:_root_.id (i=l.length):=heq
      clear heq
      repeat' with_reducible first|refine gTn_of (fun h=>?_) (fun h=>?_)|refine gT_of (fun h=>?_) (fun h=>?_)|refine caseTn_of (fun h=>?_) (fun h=>?_)|refine caseT_of (fun h=>?_) (fun h=>?_)|refine FN ?_ ?_ ?_ ?_ rfl ?_|refine kv_ifn ?_ ?_|refine kv_if ?_ ?_|refine k_if ?_ ?_|refine IA ?_ ?_ ?_|refine L1 ?_ ?_|refine L2 ?_ ?_|refine L3 ?_ ?_ ?_ ?_|refine L4 ?_ ?_|refine L5 ?_ ?_ ?_ ?_ ?_|refine L6 ?_ ?_ ?_ ?_ ?_|refine ia_of (d:=default) ?_ ?_|refine mu_d (by simp -implicitDefEqProofs only [m_get,Nat.reduceEqDiff,reduceIte,if_true,if_false]; first|done|exact rfl) ?_|simp -implicitDefEqProofs only [F87,qA,ld_0,ld_pv,st_0,splice,doEqs,qU,List.reduceReplicate,Nat.reduceAdd,Nat.reduceSub,Nat.reduceLeDiff,Nat.reduceEqDiff,Nat.reduceMul,reduceIte,reduceCtorEq,qI,Nat.reduceLT,Nat.reduceBEq,up_s,Int.toNat_natCast,encT,v_invoke,ik_s,nl_s,nl_0,lm_normal,lm_exit,lm_ret,encD, *]
      all_goals first
        | omega
        | (obtain rfl:i=l.length:=hg
           rw [List.take_length]
           exact fin_new [] [(2,1)] rfl rfl rfl (by simp [stM,stT,nameT,lk,mp_tr,AM.upd,AM.rep]))
        | trace_state
  all_goals first
    | omega
    | (simp -implicitDefEqProofs only [qA,ld_0,ld_pv,st_0,splice,doEqs,qU,List.reduceReplicate,Nat.reduceAdd,Nat.reduceSub,Nat.reduceLeDiff,Nat.reduceEqDiff,Nat.reduceMul,reduceIte,reduceCtorEq,qI,Nat.reduceLT,Nat.reduceBEq,qZ,nl_s,nl_0,qD,qMp]; first | done | exact rfl | (simp; done))
    | trace_state

def entB (k:Int):AV×AV:=(.int .i64 k,.bool true)
theorem mf_b {k:Int}:∀ (l:List Int),(k∉l→mfind (.int .i64 k) (l.map entB)=some none)∧(k∈l→∃ i,mfind (.int .i64 k) (l.map entB)=some (some (i,.bool true)))
  | []=>⟨fun _=>rfl,fun h=>by cases h⟩
  | x :: l=>by
    have ih:=mf_b (k:=k) l
    by_cases h:k=x
    · subst h
      exact ⟨fun h=>absurd (List.mem_cons_self ..) h,fun _=>⟨0,by simp [entB,mfind,keyEq]⟩⟩
    · have e:mfind (.int .i64 k) ((x :: l).map entB)=(mfind (.int .i64 k) (l.map entB)).map fun r=>r.map fun (i,v)=>(i+1,v):=by
        simp [entB,mfind,keyEq,h]
      refine ⟨fun hn=>?_,fun hm=>?_⟩
      · rw [e,ih.1 (fun h'=>hn (List.mem_cons_of_mem _ h'))]; rfl
      · obtain ⟨i,hi⟩:=ih.2 ((List.mem_cons.1 hm).resolve_left h)
        exact ⟨i+1,by rw [e,hi]; rfl⟩
theorem ml_b {κ:Ef→Prop} {f:Nat→Option Blk} {g:Nat} {l:List Int} {n:Int} (hm:f g=some (.mp (l.map entB))) (hk:κ (.bool (decide (n∈l)),[],[g])):okK (doLkp f (.bool false) false (.mapm g) (.int .i64 n)) κ:=by
  have : doLkp f (.bool false) false (.mapm g) (.int .i64 n)=some { v:=.bool (decide (n∈l)),rd:=[g] }:=by
    simp only [doLkp,hm,AV.isInt,if_true]
    by_cases h:n∈l
    · obtain ⟨i,hi⟩:=(mf_b l).2 h
      rw [hi]; simp [h]
    · rw [(mf_b l).1 h]; simp [h]
  rw [this]; exact hk
theorem mu_b {κ:Ef→Prop} {f:Nat→Option Blk} {g:Nat} {l:List Int} {n:Int} (hm:f g=some (.mp (l.map entB))) (hn:n∉l) (hk:κ (.und,[(g,some (.mp ((l ++ [n]).map entB)))],[g])):okK (doMupd f (.mapm g) (.int .i64 n) (.bool true)) κ:=by
  have:doMupd f (.mapm g) (.int .i64 n) (.bool true)=some { v:=.und,ups:=[(g,some (.mp ((l ++ [n]).map entB)))],rd:=[g] }:=by
    simp only [doMupd,hm,AV.isInt,if_true]
    rw [(mf_b l).1 hn]; simp [entB]
  rw [this]; exact hk
theorem mb_tr (T:Tr) (l:List Int):Blk.tr T (.mp (l.map entB))=.mp (l.map entB):=by
  simp only [Blk.tr,List.map_map]
  congr 1
theorem ids_s {l:List Due} {i:Nat} (h:i<l.length):(l.take i).map (·.id) ++ [(l.getD i default).id]=(l.take (i+1)).map (·.id):=by
  rw [List.take_add_one,List.map_append,List.getElem?_eq_getElem h,List.getD_eq_getElem?_getD,List.getElem?_eq_getElem h]; rfl
theorem ok_at {l:List Due} {i:Nat}:dOkAt l i=(dTime (l.getD i default).tm && dId (l.getD i default).id && !decide ((l.getD i default).id∈(l.take i).map (·.id)) && (decide (i=0) || dAhead (l.getD (i - 1) default) (l.getD i default))):=by
  unfold dOkAt
  congr 3
  rw [Bool.eq_iff_iff]
  simp only [List.any_eq_true,decide_eq_true_eq,List.mem_map]
def F85:AFn:=⟨48,(.seq (.reg [o1 2 (.mv (.const (.bool false)))]) (.seq (.reg [o1 6 (.mkmap),o1 3 (.mv 6)]) (.seq (.seq (.reg [o1 7 (.mv 0),o1 8 (.len 7),o1 9 (.mv (ci 0))]) (.block 0 (.loop (.seq (.reg [o1 10 (.bin .lss 9 8)]) (.seq (.cond 10 .skip (.exit 0)) (.seq (.block 1 (.seq (.reg [o1 11 (.mv 9),o1 12 (.iaddr 2 7 9),o1 13 (.ld 2 true 12),o1 5 (.alloc 51 [(.int .i64 0),(.int .i64 0)]),o1 4 (.mv 11),o2 (.st 2 5 13)]) (.seq (.seq (.regT [o1 14 (.faddr 0 5),o1 15 (.ld 1 false 14),o1 16 (.call 105 [15]),o1 17 (.not 16),o1 18 (.mv 17),o4 19 (.faddr 1 5) 18,o4 20 (.ld 1 false 19) 18,o4 21 (.call 106 [20]) 18,o4 22 (.not 21) 18,o1 23 (.pick 18 (.const (.bool true)) 22),o1 24 (.mv 23),o4 25 (.mv 3) 24,o4 26 (.faddr 1 5) 24,o4 27 (.ld 1 false 26) 24,o4 28 (.lkp (.bool false) false 25 27) 24,o1 29 (.pick 24 (.const (.bool true)) 28),o1 30 (.mv 29),o4 31 (.mv 4) 30,o4 32 (.bin .gtr 31 (ci 0)) 30,o4 33 (.mv 32) 30,o3 34 (.mv 0) 33,o3 35 (.mv 4) 33,o3 36 (.bin .sub 35 (ci 1)) 33,o3 37 (.iaddr 2 34 36) 33,o3 38 (.ld 2 true 37) 33,o3 39 (.ld 2 true 5) 33,o3 40 (.call 134 [38,39]) 33,o3 41 (.not 40) 33,o4 42 (.pick 33 41 (.const (.bool false))) 30,o1 43 (.pick 30 (.const (.bool true)) 42)] [(23,25),(24,25)]) (.cond 43 (.seq (.reg [o1 2 (.mv (.const (.bool false)))]) .ret) .skip)) (.reg [o1 44 (.mv 3),o1 45 (.faddr 1 5),o1 46 (.ld 1 false 45),o2 (.mupd 44 46 (.const (.bool true)))])))) (.reg [o1 47 (.bin .add 9 (ci 1)),o1 9 (.mv 47)]))))))) (.seq (.reg [o1 2 (.mv (.const (.bool true)))]) .ret)))),[(2,none)]⟩
theorem x85:xf Tryz.prog 85=some F85:=by kernel_rfl
theorem con85 {l:List Due} (hl:l.length≤100000):Con Tryz.prog 85 [.slv 2 (l.map encD)] (.bool (dueCheck l),[],[]):=by
  refine mcb_of_vc mix x85 (by simp [F85]) fun hw _=>?_
  clear hw
  have zd:=qD
  have zb:=mb_tr
  repeat' with_reducible first|refine gTn_of (fun h=>?_) (fun h=>?_)|refine gT_of (fun h=>?_) (fun h=>?_)|refine caseTn_of (fun h=>?_) (fun h=>?_)|refine caseT_of (fun h=>?_) (fun h=>?_)|refine FN ?_ ?_ ?_ ?_ rfl ?_|refine kv_ifn ?_ ?_|refine kv_if ?_ ?_|refine k_if ?_ ?_|refine IA ?_ ?_ ?_|refine L1 ?_ ?_|refine L2 ?_ ?_|refine L3 ?_ ?_ ?_ ?_|refine L4 ?_ ?_|refine L5 ?_ ?_ ?_ ?_ ?_|refine L6 ?_ ?_ ?_ ?_ ?_|refine ia_of (d:=default) ?_ ?_|refine ml_b (by simp -implicitDefEqProofs only [m_get,Nat.reduceEqDiff,reduceIte,if_true,if_false]; first|done|exact rfl) ?_|refine mu_b (by simp -implicitDefEqProofs only [m_get,Nat.reduceEqDiff,reduceIte,if_true,if_false]; first|done|exact rfl) ?_ ?_|refine AC.p0 con134s ?_ (by simp -implicitDefEqProofs only [pures,AV.pure,pure_encD,Bool.and_true]; done) ?_ ?_|refine AC.p0 con134 ?_ (by simp -implicitDefEqProofs only [pures,AV.pure,pure_encD,Bool.and_true]; done) ?_ ?_|refine P0 (con105) ?_ ?_ ?_|refine ACV.of (con105) ?_ ?_ ?_|refine ACK.of (con105) ?_ ?_|refine P0 (con106) ?_ ?_ ?_|refine ACV.of (con106) ?_ ?_ ?_|refine ACK.of (con106) ?_ ?_|simp -implicitDefEqProofs only [F85,qA,ld_0,ld_pv,st_0,splice,doEqs,qU,List.reduceReplicate,Nat.reduceAdd,Nat.reduceSub,Nat.reduceLeDiff,Nat.reduceEqDiff,Nat.reduceMul,reduceIte,reduceCtorEq,qI,Nat.reduceLT,Nat.reduceBEq,up_s,Int.toNat_natCast,encT,v_invoke,ik_s,nl_s,nl_0,lm_normal,lm_exit,lm_ret,encD, *]
  all_goals first
    | refine lm_of 4 (fun i:Nat=>some (.slv 2 (l.map encD)) :: nl 2 (some (.mapm 2) :: nl 3 (some (.slv 2 (l.map encD)) :: some (.int .i64 l.length) :: some (.int .i64 i) :: nl 38 []))) (fun i=>[(2,.mp (((l.take i).map (·.id)).map entB))]) (fun i=>i≤l.length∧∀ j,j<i→dOkAt l j=true) (fun i=>l.length - i) [] [(17,2)] 0 (by omega) ?_ ?_ ?_ ?_ ?_ ?_
    | omega
    | trace_state
  rotate_right
  · rintro i ⟨hi,hok⟩
    simp only [all_some,all_none,all_nil,nl_s,nl_0]
    intros
    rcases Nat.lt_or_eq_of_le hi with hlt | heq
    · have hd:((i:Int)<(l.length:Int))=True:=by simp; omega
      have hs:=ids_s hlt
      have hT:dOkAt l i=true→i+1≤l.length∧∀ j,j<i+1→dOkAt l j=true:=fun h=>⟨by omega,fun j hj=>by
        rcases Nat.lt_or_eq_of_le (Nat.le_of_lt_succ hj) with h9 | h9
        · exact hok j h9
        · exact h9 ▸ h⟩
      have hF:dOkAt l i=false→Wk (.bool false) (.bool (dueCheck l)):=fun h=>Wk.of_eq (by rw [dueCheck_f hlt h])
      have q0:(i:Int) > 0→IntKind.wrap .i64 ((i:Int) - 1)=((i - 1:Nat):Int):=fun h=>by rw [wrap64 (by omega) (by omega)]; omega
      have q1:decide ((i:Int) > 0)=false→decide (i=0)=true:=fun h=>decide_eq_true (by have:=of_decide_eq_false h; omega)
      have q2:decide ((i:Int) > 0)=true→decide (i=0)=false:=fun h=>decide_eq_false (by have:=of_decide_eq_true h; omega)
      clear hok
      repeat' with_reducible first|refine gTn_of (fun h=>?_) (fun h=>?_)|refine gT_of (fun h=>?_) (fun h=>?_)|refine caseTn_of (fun h=>?_) (fun h=>?_)|refine caseT_of (fun h=>?_) (fun h=>?_)|refine FN ?_ ?_ ?_ ?_ rfl ?_|refine kv_ifn ?_ ?_|refine kv_if ?_ ?_|refine k_if ?_ ?_|refine IA ?_ ?_ ?_|refine L1 ?_ ?_|refine L2 ?_ ?_|refine L3 ?_ ?_ ?_ ?_|refine L4 ?_ ?_|refine L5 ?_ ?_ ?_ ?_ ?_|refine L6 ?_ ?_ ?_ ?_ ?_|refine ia_of (d:=default) ?_ ?_|refine ml_b (by simp -implicitDefEqProofs only [m_get,Nat.reduceEqDiff,reduceIte,if_true,if_false]; first|done|exact rfl) ?_|refine mu_b (by simp -implicitDefEqProofs only [m_get,Nat.reduceEqDiff,reduceIte,if_true,if_false]; first|done|exact rfl) ?_ ?_|refine AC.p0 con134s ?_ (by simp -implicitDefEqProofs only [pures,AV.pure,pure_encD,Bool.and_true]; done) ?_ ?_|refine AC.p0 con134 ?_ (by simp -implicitDefEqProofs only [pures,AV.pure,pure_encD,Bool.and_true]; done) ?_ ?_|refine rm_of [] [(2,2)] (i+1) ?_ ?_ ?_ ?_ ?_ ?_|refine P0 (con105) ?_ ?_ ?_|refine ACV.of (con105) ?_ ?_ ?_|refine ACK.of (con105) ?_ ?_|refine P0 (con106) ?_ ?_ ?_|refine ACV.of (con106) ?_ ?_ ?_|refine ACK.of (con106) ?_ ?_|simp -implicitDefEqProofs only [F85,qA,ld_0,ld_pv,st_0,splice,doEqs,qU,List.reduceReplicate,Nat.reduceAdd,Nat.reduceSub,Nat.reduceLeDiff,Nat.reduceEqDiff,Nat.reduceMul,reduceIte,reduceCtorEq,qI,Nat.reduceLT,Nat.reduceBEq,up_s,Int.toNat_natCast,encT,v_invoke,ik_s,nl_s,nl_0,lm_normal,lm_exit,lm_ret,encD, *]
      all_goals first
        | omega
        | rfl
        | (rw [wrap64 (by omega) (by omega)]; omega)
        | exact of_decide_eq_false (by assumption)
        | (rw [q0 (of_decide_eq_true (by assumption))]; constructor <;> omega)
        | (have hq:=q0 (of_decide_eq_true (by assumption))
           have ha:dAhead (l.getD (i - 1) default) (l.getD i default)=false:=by rw [hq] at h; exact h
           have hq3:=q2 (by assumption); clear q0 q1 q2 hT; refine hF ?_; clear hF; rw [ok_at]; simp only [*,Bool.false_and,Bool.true_and,Bool.and_false,Bool.and_true,Bool.not_true,Bool.not_false,Bool.or_true,Bool.or_false,Bool.false_or,Bool.true_or])
        | (have hq:=q0 (of_decide_eq_true (by assumption))
           have ha:dAhead (l.getD (i - 1) default) (l.getD i default)=true:=by rw [hq] at h; exact h
           clear q0 q1 q2 hF; refine hT ?_; clear hT; rw [ok_at]; simp only [*,Bool.false_and,Bool.true_and,Bool.and_false,Bool.and_true,Bool.not_true,Bool.not_false,Bool.or_true,Bool.or_false,Bool.false_or,Bool.true_or])
        | (have hq:=q1 (by assumption)
           clear q0 q1 q2 hF; refine hT ?_; clear hT; rw [ok_at]; simp only [*,Bool.false_and,Bool.true_and,Bool.and_false,Bool.and_true,Bool.not_true,Bool.not_false,Bool.or_true,Bool.or_false,Bool.false_or,Bool.true_or])
        | (clear q0 q1 q2 hT; refine hF ?_; clear hF; rw [ok_at]; simp only [*,Bool.false_and,Bool.true_and,Bool.and_false,Bool.and_true,Bool.not_true,Bool.not_false,Bool.or_true,Bool.or_false,Bool.false_or,Bool.true_or]; done)
        | trace_state
    · have hd:((i:Int)<(l.length:Int))=False:=by simp; omega
      have hg:_root_.id (i=l.length):=heq
      clear heq
      have hok2:dueCheck l=true:=dueCheck_t fun j hj=>hok j (by have:i=l.length:=hg; omega)
      clear hok
      repeat' with_reducible first|refine gTn_of (fun h=>?_) (fun h=>?_)|refine gT_of (fun h=>?_) (fun h=>?_)|refine caseTn_of (fun h=>?_) (fun h=>?_)|refine caseT_of (fun h=>?_) (fun h=>?_)|refine FN ?_ ?_ ?_ ?_ rfl ?_|refine kv_ifn ?_ ?_|refine kv_if ?_ ?_|refine k_if ?_ ?_|refine IA ?_ ?_ ?_|refine L1 ?_ ?_|refine L2 ?_ ?_|refine L3 ?_ ?_ ?_ ?_|refine L4 ?_ ?_|refine L5 ?_ ?_ ?_ ?_ ?_|refine L6 ?_ ?_ ?_ ?_ ?_|refine ia_of (d:=default) ?_ ?_|refine ml_b (by simp -implicitDefEqProofs only [m_get,Nat.reduceEqDiff,reduceIte,if_true,if_false]; first|done|exact rfl) ?_|refine mu_b (by simp -implicitDefEqProofs only [m_get,Nat.reduceEqDiff,reduceIte,if_true,if_false]; first|done|exact rfl) ?_ ?_|refine AC.p0 con134s ?_ (by simp -implicitDefEqProofs only [pures,AV.pure,pure_encD,Bool.and_true]; done) ?_ ?_|refine AC.p0 con134 ?_ (by simp -implicitDefEqProofs only [pures,AV.pure,pure_encD,Bool.and_true]; done) ?_ ?_|refine P0 (con105) ?_ ?_ ?_|refine ACV.of (con105) ?_ ?_ ?_|refine ACK.of (con105) ?_ ?_|refine P0 (con106) ?_ ?_ ?_|refine ACV.of (con106) ?_ ?_ ?_|refine ACK.of (con106) ?_ ?_|simp -implicitDefEqProofs only [F85,qA,ld_0,ld_pv,st_0,splice,doEqs,qU,List.reduceReplicate,Nat.reduceAdd,Nat.reduceSub,Nat.reduceLeDiff,Nat.reduceEqDiff,Nat.reduceMul,reduceIte,reduceCtorEq,qI,Nat.reduceLT,Nat.reduceBEq,up_s,Int.toNat_natCast,encT,v_invoke,ik_s,nl_s,nl_0,lm_normal,lm_exit,lm_ret,encD, *]
      all_goals first
        | omega
        | exact Wk.refl _
        | trace_state
  all_goals first
    | omega
    | exact ⟨Nat.zero_le _,fun j hj=>absurd hj (Nat.not_lt_zero j)⟩
    | (simp -implicitDefEqProofs only [qA,ld_0,ld_pv,st_0,splice,doEqs,qU,List.reduceReplicate,Nat.reduceAdd,Nat.reduceSub,Nat.reduceLeDiff,Nat.reduceEqDiff,Nat.reduceMul,reduceIte,reduceCtorEq,qI,Nat.reduceLT,Nat.reduceBEq,qZ,nl_s,nl_0,qD,mb_tr]; first | done | exact rfl | (simp; done))
    | trace_state

end Go.Sak
