/- Part T107 of the proofs about the program: K207, K208, K209. Conditions: none. -/
import Derived.Test.YtahdilehajdhgaaGreatT106
open Go.Sak.AV renaming isInt→M7,pure→H3
open Bool renaming and_false→Q0,and_true→G6,false_and→Q1,false_or→Y2,not_false→U7,not_true→Y3,or_false→V4,or_true→W7,true_and→P4,true_or→Y8
open Int renaming toNat_natCast→E0
open List renaming getElem?_eq_getElem→F9,map_map→R7,mem_map→G5,reduceReplicate→D1
open Nat renaming lt_or_eq_of_le→O9,reduceAdd→D4,reduceBEq→E1,reduceEqDiff→D0,reduceLT→E2,reduceLeDiff→D3,reduceMul→D6,reduceSub→D5
open Option renaming map_some→L9
open Go.Proofs.Tryz renaming prog→D8
namespace Go.Sak
open Go Go.RowKit Go.Proofs
set_option linter.unusedVariables false
set_option linter.unusedSimpArgs false
set_option maxRecDepth 10000
set_option maxHeartbeats 8000000
def IW:AFn:=⟨9,(.seq (.reg [o1 2 (.mv (.const (.bool false)))]) (.seq (.reg [o1 3 (.mv 0),o1 4 (.bin .geq 3 (ci 0)),o1 5 (.mv 4),o3 6 (.mv 0) 5,o3 7 (.bin .leq 6 (ci 1099511627776)) 5,o1 8 (.pick 5 7 (.const (.bool false))),o1 2 (.mv 8)]) .ret)),[(2,none)]⟩
theorem XH:xf D8 105=some IW:=by kernel_rfl
theorem mW {tm:Int}  : cX D8 105 [.int .i64 tm] ((.bool (sO tm)),[],[]):=by
  refine aI bP XH (by simp [IW]) fun hw _=>?_
  simp only [iR,AV.wf,aY] at hw
  repeat' with_reducible first|refine aQ (fun h=>?_) (fun h=>?_)|refine bB (fun h=>?_) (fun h=>?_)|refine aF (fun h=>?_) (fun h=>?_)|refine aH (fun h=>?_) (fun h=>?_)|refine bJ ?_ ?_ ?_ ?_|refine aR ?_ ?_|refine bC ?_ ?_|refine bM ?_ ?_|simp -implicitDefEqProofs only [IW,qA,cS,cW,aJ,aP,qU,D1,D4,D5,D3,D0,D6,reduceIte,reduceCtorEq, *]
  all_goals first
    | (simp; done)
    | exact bE
    | exact bE.symm
    | grind [aY,bL,bI,sO]

def IX:AFn:=⟨9,(.seq (.reg [o1 2 (.mv (.const (.bool false)))]) (.seq (.reg [o1 3 (.mv 0),o1 4 (.bin .geq 3 (ci 0)),o1 5 (.mv 4),o3 6 (.mv 0) 5,o3 7 (.bin .lss 6 (ci 16)) 5,o1 8 (.pick 5 7 (.const (.bool false))),o1 2 (.mv 8)]) .ret)),[(2,none)]⟩
theorem XI:xf D8 106=some IX:=by kernel_rfl
theorem mX {n:Int}  : cX D8 106 [.int .i64 n] ((.bool (Rf n)),[],[]):=by
  refine aI bP XI (by simp [IX]) fun hw _=>?_
  simp only [iR,AV.wf,aY] at hw
  repeat' with_reducible first|refine aQ (fun h=>?_) (fun h=>?_)|refine bB (fun h=>?_) (fun h=>?_)|refine aF (fun h=>?_) (fun h=>?_)|refine aH (fun h=>?_) (fun h=>?_)|refine bJ ?_ ?_ ?_ ?_|refine aR ?_ ?_|refine bC ?_ ?_|refine bM ?_ ?_|simp -implicitDefEqProofs only [IX,qA,cS,cW,aJ,aP,qU,D1,D4,D5,D3,D0,D6,reduceIte,reduceCtorEq, *]
  all_goals first
    | (simp; done)
    | exact bE
    | exact bE.symm
    | grind [aY,bL,bI,Rf]

theorem FZ {k:Int}:∀ (l:List Due),eX (.int .i64 k) (l.map lA)=some ((mZ l k).map fun r=>(r.1,.agg (cC r.2)))
  | []=>rfl
  | d :: l=>by
    have ih:=FZ (k:=k) l
    show eX (.int .i64 k) ((.int .i64 d.id,.agg (cC d)) :: l.map lA)=_
    by_cases h:k=d.id
    · simp [eX,fJ,mZ,h]
    · simp only [eX,fJ,mZ,if_true,h,decide_false,ih,if_false,L9,Option.map_map]
      cases mZ l k <;> rfl
theorem Cg {κ:Ef→Prop} {f:Nat→Option Blk} {g:Nat} {l:List Due} {n a:Int} (hm:f g=some (.mp (l.map lA))) (hk:κ (.und,[(g,some (.mp ((oZ l ⟨a,n⟩).map lA)))],[g])):nJ (dV f (.mapm g) (.int .i64 n) (.agg [.int .i64 a,.int .i64 n])) κ:=by
  have:dV f (.mapm g) (.int .i64 n) (.agg [.int .i64 a,.int .i64 n])=some { v:=.und,ups:=[(g,some (.mp ((oZ l ⟨a,n⟩).map lA)))],rd:=[g] }:=by
    simp only [dV,hm,M7,if_true,FZ,L9,oZ]
    cases mZ l n with
    | none=>simp [lA,cC]
    | some r=>simp [lA,cC,List.map_set]
  rw [this]; exact hk
theorem Jg {κ:Ef→Prop} {f:Nat→Option Blk} {g:Nat} {l:List Due} {n:Int} (hm:f g=some (.mp (l.map lA))) (hk:κ (.tup [.agg (cC (KQ l n)),.bool (Rb l n)],[],[g])):nJ (fM f (.agg [.int .i64 0,.int .i64 0]) true (.mapm g) (.int .i64 n)) κ:=by
  have:fM f (.agg [.int .i64 0,.int .i64 0]) true (.mapm g) (.int .i64 n)=some { v:=.tup [.agg (cC (KQ l n)),.bool (Rb l n)],rd:=[g] }:=by
    simp only [fM,hm,M7,if_true,FZ,L9,KQ,Rb]
    cases mZ l n <;> rfl
  rw [this]; exact hk
theorem Lr {κ:Ef→Prop} {f:Nat→Option Blk} {g:Nat} {l:List Due} {n:Int} (hm:f g=some (.mp (l.map lA))) (hk:κ (.tup [],[(g,some (.mp ((Hy l n).map lA)))],[g])):nJ (qL f (.mapm g) (.int .i64 n)) κ:=by
  have:qL f (.mapm g) (.int .i64 n)=some { v:=.tup [],ups:=[(g,some (.mp ((Hy l n).map lA)))],rd:=[g] }:=by
    simp only [qL,hm,M7,if_true,FZ,L9,Hy]
    cases mZ l n with
    | none=>rfl
    | some r=>simp [List.eraseIdx_eq_take_drop_succ,List.map_take,List.map_drop]
  rw [this]; exact hk
theorem QD (L:List Nat):∀ (l:List Due),Blk.inN L (.mp (l.map lA))=true:=fun l=>by
  simp only [Blk.inN,List.all_eq_true,G5]
  rintro p ⟨d,_,rfl⟩
  simp [lA,AV.inN,cC,jX]
theorem QE (l:List Due):Blk.nms (.mp (l.map lA))=[]:=by
  simp only [Blk.nms,List.flatMap_eq_nil_iff,G5]
  rintro p ⟨d,_,rfl⟩
  simp [lA,AV.nms,cC,jL]
theorem Yn (T:Tr) (l:List Due):Blk.tr T (.mp (l.map lA))=.mp (l.map lA):=by
  simp only [Blk.tr,R7]
  congr 1
theorem sM {g b:Nat} {ds:List Due} (hl:ds.length≤100000):sD D8 88 [.mapm g] (.slv 2 ((jF ds).map cC),inlU [(g,.mp (ds.map lA))] [(g,.mp (ds.map lA))],[]) (AM.get [(g,.mp (ds.map lA))]) b:=by
  obtain ⟨h1,h2⟩:=OI (g:=g) (b:=b) hl
  refine ⟨h1,fun c hc hm hU vs hvs=>(h2 c hc hm hU vs hvs).mono ?_⟩
  rintro en w' ⟨c',z,q1,q2,q3,q4,q5,q6,q7⟩
  refine ⟨c',z,q1,q2,q3,q4,?_,q6,q7⟩
  have e:ups (AM.get [(g,.mp (ds.map lA))]) (inlU [(g,.mp (ds.map lA))] [(g,.mp (ds.map lA))])=AM.get [(g,.mp (ds.map lA))]:=by
    rw [← AM.get_upd]; exact (mP (by simp)).symm
  rw [e]; exact q5
set_option linter.defProp false
def Om:=And.intro (@QD) (And.intro (@QE) (@Yn))
def NM:AFn:=⟨19,(.seq (.reg [o1 2 (.mv (.const .mapnil))]) (.seq (.reg [o1 6 (.mkmap),o1 3 (.mv 6)]) (.seq (.seq (.reg [o1 7 (.mv 0),o1 8 (.len 7),o1 9 (.mv (ci 0))]) (.block 0 (.loop (.seq (.reg [o1 10 (.bin .lss 9 8)]) (.seq (.cond 10 .skip (.exit 0)) (.seq (.block 1 (.seq (.reg [o1 11 (.iaddr 2 7 9),o1 12 (.ld 2 true 11),o1 5 (.alloc 51 [(.int .i64 0),(.int .i64 0)]),o2 (.st 2 5 12)]) (.reg [o1 13 (.mv 3),o1 14 (.faddr 1 5),o1 15 (.ld 1 false 14),o1 16 (.ld 2 true 5),o2 (.mupd 13 15 16)]))) (.reg [o1 17 (.bin .add 9 (ci 1)),o1 9 (.mv 17)]))))))) (.seq (.reg [o1 18 (.mv 3),o1 2 (.mv 18)]) .ret)))),[(2,none)]⟩
theorem C9:xf D8 87=some NM:=by kernel_rfl
theorem zE {l:List Due} (hl:l.length≤100000):cX D8 87 [.slv 2 (l.map cC)] (.mapm 1,[(1,some (.mp ((iG l).map lA)))],[]):=by
  refine aI bP C9 (by simp [NM]) fun hw _=>?_
  clear hw
  have zd:=qD
  have zm:=Om
  repeat' with_reducible first|refine aQ (fun h=>?_) (fun h=>?_)|refine bB (fun h=>?_) (fun h=>?_)|refine aF (fun h=>?_) (fun h=>?_)|refine aH (fun h=>?_) (fun h=>?_)|refine FN ?_ ?_ ?_ ?_ rfl ?_|refine aR ?_ ?_|refine bC ?_ ?_|refine bM ?_ ?_|refine IA ?_ ?_ ?_|refine L1 ?_ ?_|refine L2 ?_ ?_|refine L3 ?_ ?_ ?_ ?_|refine L4 ?_ ?_|refine L5 ?_ ?_ ?_ ?_ ?_|refine L6 ?_ ?_ ?_ ?_ ?_|refine eK (d:=default) ?_ ?_|refine Cg (by simp -implicitDefEqProofs only [m_get,D0,reduceIte,if_true,if_false]; first|done|exact rfl) ?_|simp -implicitDefEqProofs only [NM,qA,bN,bD,bO,aJ,aP,qU,D1,D4,D5,D3,D0,D6,reduceIte,reduceCtorEq,qI,E2,E1,cL,E0,bH,dW,mO,dI,dJ,bS,cJ,cY,cC, *]
  all_goals first
    | refine oN 4 (fun i:Nat=>some (.slv 2 (l.map cC)) :: nl 2 (some (.mapm 2) :: nl 3 (some (.slv 2 (l.map cC)) :: some (.int .i64 l.length) :: some (.int .i64 i) :: nl 9 []))) (fun i=>[(2,.mp ((iG (l.take i)).map lA))]) (fun i=>i≤l.length) (fun i=>l.length - i) [] [(17,2)] 0 (by omega) ?_ ?_ ?_ ?_ ?_ ?_
    | omega
    | skip
  rotate_right
  · intro i hi
    simp only [dL,dK,all_nil,dI,dJ]
    intros
    rcases O9 hi with hlt | heq
    · have hd:((i:Int)<(l.length:Int))=True:=by simp; omega
      have hs:oZ (iG (l.take i)) ⟨(l.getD i default).tm,(l.getD i default).id⟩=iG (l.take (i+1)):=EN hlt
      repeat' with_reducible first|refine aQ (fun h=>?_) (fun h=>?_)|refine bB (fun h=>?_) (fun h=>?_)|refine aF (fun h=>?_) (fun h=>?_)|refine aH (fun h=>?_) (fun h=>?_)|refine FN ?_ ?_ ?_ ?_ rfl ?_|refine aR ?_ ?_|refine bC ?_ ?_|refine bM ?_ ?_|refine IA ?_ ?_ ?_|refine L1 ?_ ?_|refine L2 ?_ ?_|refine L3 ?_ ?_ ?_ ?_|refine L4 ?_ ?_|refine L5 ?_ ?_ ?_ ?_ ?_|refine L6 ?_ ?_ ?_ ?_ ?_|refine eK (d:=default) ?_ ?_|refine Cg (by simp -implicitDefEqProofs only [m_get,D0,reduceIte,if_true,if_false]; first|done|exact rfl) ?_|refine gV [] [(2,2)] (i+1) ?_ ?_ ?_ ?_ ?_ ?_|simp -implicitDefEqProofs only [NM,qA,bN,bD,bO,aJ,aP,qU,D1,D4,D5,D3,D0,D6,reduceIte,reduceCtorEq,qI,E2,E1,cL,E0,bH,dW,mO,dI,dJ,bS,cJ,cY,cC, *]
      all_goals first
        | omega
        | rfl
        | (rw [bL (by omega) (by omega)]; omega)
        | skip
    · have hd:((i:Int)<(l.length:Int))=False:=by simp; omega
      have hg:_root_.id (i=l.length):=heq
      clear heq
      repeat' with_reducible first|refine aQ (fun h=>?_) (fun h=>?_)|refine bB (fun h=>?_) (fun h=>?_)|refine aF (fun h=>?_) (fun h=>?_)|refine aH (fun h=>?_) (fun h=>?_)|refine FN ?_ ?_ ?_ ?_ rfl ?_|refine aR ?_ ?_|refine bC ?_ ?_|refine bM ?_ ?_|refine IA ?_ ?_ ?_|refine L1 ?_ ?_|refine L2 ?_ ?_|refine L3 ?_ ?_ ?_ ?_|refine L4 ?_ ?_|refine L5 ?_ ?_ ?_ ?_ ?_|refine L6 ?_ ?_ ?_ ?_ ?_|refine eK (d:=default) ?_ ?_|refine Cg (by simp -implicitDefEqProofs only [m_get,D0,reduceIte,if_true,if_false]; first|done|exact rfl) ?_|simp -implicitDefEqProofs only [NM,qA,bN,bD,bO,aJ,aP,qU,D1,D4,D5,D3,D0,D6,reduceIte,reduceCtorEq,qI,E2,E1,cL,E0,bH,dW,mO,dI,dJ,bS,cJ,cY,cC, *]
      all_goals first
        | omega
        | (obtain rfl:i=l.length:=hg
           rw [List.take_length]
           exact wN [] [(2,1)] rfl rfl rfl (by simp [stM,stT,nameT,lk,Yn,AM.upd,AM.rep]))
        | skip
  all_goals first
    | omega
    | (simp -implicitDefEqProofs only [qA,bN,bD,bO,aJ,aP,qU,D1,D4,D5,D3,D0,D6,reduceIte,reduceCtorEq,qI,E2,E1,qZ,dI,dJ,qD,Om]; first | done | exact rfl | (simp; done))
    | skip

set_option maxHeartbeats 8000000
def wJ (k:Int):AV×AV:=(.int .i64 k,.bool true)
theorem FY {k:Int}:∀ (l:List Int),(k∉l→eX (.int .i64 k) (l.map wJ)=some none)∧(k∈l→∃ i,eX (.int .i64 k) (l.map wJ)=some (some (i,.bool true)))
  | []=>⟨fun _=>rfl,fun h=>by cases h⟩
  | x :: l=>by
    have ih:=FY (k:=k) l
    by_cases h:k=x
    · subst h
      exact ⟨fun h=>absurd (List.mem_cons_self ..) h,fun _=>⟨0,by simp [wJ,eX,fJ]⟩⟩
    · have e:eX (.int .i64 k) ((x :: l).map wJ)=(eX (.int .i64 k) (l.map wJ)).map fun r=>r.map fun (i,v)=>(i+1,v):=by
        simp [wJ,eX,fJ,h]
      refine ⟨fun hn=>?_,fun hm=>?_⟩
      · rw [e,ih.1 (fun h'=>hn (List.mem_cons_of_mem _ h'))]; rfl
      · obtain ⟨i,hi⟩:=ih.2 ((List.mem_cons.1 hm).resolve_left h)
        exact ⟨i+1,by rw [e,hi]; rfl⟩
theorem LK {κ:Ef→Prop} {f:Nat→Option Blk} {g:Nat} {l:List Int} {n:Int} (hm:f g=some (.mp (l.map wJ))) (hk:κ (.bool (decide (n∈l)),[],[g])):nJ (fM f (.bool false) false (.mapm g) (.int .i64 n)) κ:=by
  have : fM f (.bool false) false (.mapm g) (.int .i64 n)=some { v:=.bool (decide (n∈l)),rd:=[g] }:=by
    simp only [fM,hm,M7,if_true]
    by_cases h:n∈l
    · obtain ⟨i,hi⟩:=(FY l).2 h
      rw [hi]; simp [h]
    · rw [(FY l).1 h]; simp [h]
  rw [this]; exact hk
theorem LM {κ:Ef→Prop} {f:Nat→Option Blk} {g:Nat} {l:List Int} {n:Int} (hm:f g=some (.mp (l.map wJ))) (hn:n∉l) (hk:κ (.und,[(g,some (.mp ((l ++ [n]).map wJ)))],[g])):nJ (dV f (.mapm g) (.int .i64 n) (.bool true)) κ:=by
  have:dV f (.mapm g) (.int .i64 n) (.bool true)=some { v:=.und,ups:=[(g,some (.mp ((l ++ [n]).map wJ)))],rd:=[g] }:=by
    simp only [dV,hm,M7,if_true]
    rw [(FY l).1 hn]; simp [wJ]
  rw [this]; exact hk
theorem IM (T:Tr) (l:List Int):Blk.tr T (.mp (l.map wJ))=.mp (l.map wJ):=by
  simp only [Blk.tr,R7]
  congr 1
theorem OW {l:List Due} {i:Nat} (h:i<l.length):(l.take i).map (·.id) ++ [(l.getD i default).id]=(l.take (i+1)).map (·.id):=by
  rw [List.take_add_one,List.map_append,F9 h,List.getD_eq_getElem?_getD,F9 h]; rfl
theorem Oi {l:List Due} {i:Nat}:rR l i=(sO (l.getD i default).tm && Rf (l.getD i default).id && !decide ((l.getD i default).id∈(l.take i).map (·.id)) && (decide (i=0) || gA (l.getD (i - 1) default) (l.getD i default))):=by
  unfold rR
  congr 3
  rw [Bool.eq_iff_iff]
  simp only [List.any_eq_true,decide_eq_true_eq,G5]
def NK:AFn:=⟨48,(.seq (.reg [o1 2 (.mv (.const (.bool false)))]) (.seq (.reg [o1 6 (.mkmap),o1 3 (.mv 6)]) (.seq (.seq (.reg [o1 7 (.mv 0),o1 8 (.len 7),o1 9 (.mv (ci 0))]) (.block 0 (.loop (.seq (.reg [o1 10 (.bin .lss 9 8)]) (.seq (.cond 10 .skip (.exit 0)) (.seq (.block 1 (.seq (.reg [o1 11 (.mv 9),o1 12 (.iaddr 2 7 9),o1 13 (.ld 2 true 12),o1 5 (.alloc 51 [(.int .i64 0),(.int .i64 0)]),o1 4 (.mv 11),o2 (.st 2 5 13)]) (.seq (.seq (.regT [o1 14 (.faddr 0 5),o1 15 (.ld 1 false 14),o1 16 (.call 105 [15]),o1 17 (.not 16),o1 18 (.mv 17),o4 19 (.faddr 1 5) 18,o4 20 (.ld 1 false 19) 18,o4 21 (.call 106 [20]) 18,o4 22 (.not 21) 18,o1 23 (.pick 18 (.const (.bool true)) 22),o1 24 (.mv 23),o4 25 (.mv 3) 24,o4 26 (.faddr 1 5) 24,o4 27 (.ld 1 false 26) 24,o4 28 (.lkp (.bool false) false 25 27) 24,o1 29 (.pick 24 (.const (.bool true)) 28),o1 30 (.mv 29),o4 31 (.mv 4) 30,o4 32 (.bin .gtr 31 (ci 0)) 30,o4 33 (.mv 32) 30,o3 34 (.mv 0) 33,o3 35 (.mv 4) 33,o3 36 (.bin .sub 35 (ci 1)) 33,o3 37 (.iaddr 2 34 36) 33,o3 38 (.ld 2 true 37) 33,o3 39 (.ld 2 true 5) 33,o3 40 (.call 134 [38,39]) 33,o3 41 (.not 40) 33,o4 42 (.pick 33 41 (.const (.bool false))) 30,o1 43 (.pick 30 (.const (.bool true)) 42)] [(23,25),(24,25)]) (.cond 43 (.seq (.reg [o1 2 (.mv (.const (.bool false)))]) .ret) .skip)) (.reg [o1 44 (.mv 3),o1 45 (.faddr 1 5),o1 46 (.ld 1 false 45),o2 (.mupd 44 46 (.const (.bool true)))])))) (.reg [o1 47 (.bin .add 9 (ci 1)),o1 9 (.mv 47)]))))))) (.seq (.reg [o1 2 (.mv (.const (.bool true)))]) .ret)))),[(2,none)]⟩
theorem C8:xf D8 85=some NK:=by kernel_rfl
theorem zC {l:List Due} (hl:l.length≤100000):cX D8 85 [.slv 2 (l.map cC)] (.bool (dP l),[],[]):=by
  refine aI bP C8 (by simp [NK]) fun hw _=>?_
  clear hw
  have zd:=qD
  have zb:=IM
  repeat' with_reducible first|refine aQ (fun h=>?_) (fun h=>?_)|refine bB (fun h=>?_) (fun h=>?_)|refine aF (fun h=>?_) (fun h=>?_)|refine aH (fun h=>?_) (fun h=>?_)|refine FN ?_ ?_ ?_ ?_ rfl ?_|refine aR ?_ ?_|refine bC ?_ ?_|refine bM ?_ ?_|refine IA ?_ ?_ ?_|refine L1 ?_ ?_|refine L2 ?_ ?_|refine L3 ?_ ?_ ?_ ?_|refine L4 ?_ ?_|refine L5 ?_ ?_ ?_ ?_ ?_|refine L6 ?_ ?_ ?_ ?_ ?_|refine eK (d:=default) ?_ ?_|refine LK (by simp -implicitDefEqProofs only [m_get,D0,reduceIte,if_true,if_false]; first|done|exact rfl) ?_|refine LM (by simp -implicitDefEqProofs only [m_get,D0,reduceIte,if_true,if_false]; first|done|exact rfl) ?_ ?_|refine AC.p0 pZ ?_ (by simp -implicitDefEqProofs only [pures,H3,bK,G6]; done) ?_ ?_|refine AC.p0 Fu ?_ (by simp -implicitDefEqProofs only [pures,H3,bK,G6]; done) ?_ ?_|refine P0 (mW) ?_ ?_ ?_|refine ACV.of (mW) ?_ ?_ ?_|refine ACK.of (mW) ?_ ?_|refine P0 (mX) ?_ ?_ ?_|refine ACV.of (mX) ?_ ?_ ?_|refine ACK.of (mX) ?_ ?_|simp -implicitDefEqProofs only [NK,qA,bN,bD,bO,aJ,aP,qU,D1,D4,D5,D3,D0,D6,reduceIte,reduceCtorEq,qI,E2,E1,cL,E0,bH,dW,mO,dI,dJ,bS,cJ,cY,cC, *]
  all_goals first
    | refine oN 4 (fun i:Nat=>some (.slv 2 (l.map cC)) :: nl 2 (some (.mapm 2) :: nl 3 (some (.slv 2 (l.map cC)) :: some (.int .i64 l.length) :: some (.int .i64 i) :: nl 38 []))) (fun i=>[(2,.mp (((l.take i).map (·.id)).map wJ))]) (fun i=>i≤l.length∧∀ j,j<i→rR l j=true) (fun i=>l.length - i) [] [(17,2)] 0 (by omega) ?_ ?_ ?_ ?_ ?_ ?_
    | omega
    | skip
  rotate_right
  · rintro i ⟨hi,hok⟩
    simp only [dL,dK,all_nil,dI,dJ]
    intros
    rcases O9 hi with hlt | heq
    · have hd:((i:Int)<(l.length:Int))=True:=by simp; omega
      have hs:=OW hlt
      have hT:rR l i=true→i+1≤l.length∧∀ j,j<i+1→rR l j=true:=fun h=>⟨by omega,fun j hj=>by
        rcases O9 (Nat.le_of_lt_succ hj) with h9 | h9
        · exact hok j h9
        · exact h9 ▸ h⟩
      have hF:rR l i=false→Wk (.bool false) (.bool (dP l)):=fun h=>Wk.of_eq (by rw [Lf hlt h])
      have q0:(i:Int) > 0→IntKind.wrap .i64 ((i:Int) - 1)=((i - 1:Nat):Int):=fun h=>by rw [bL (by omega) (by omega)]; omega
      have q1:decide ((i:Int) > 0)=false→decide (i=0)=true:=fun h=>decide_eq_true (by have:=of_decide_eq_false h; omega)
      have q2:decide ((i:Int) > 0)=true→decide (i=0)=false:=fun h=>decide_eq_false (by have:=of_decide_eq_true h; omega)
      clear hok
      repeat' with_reducible first|refine aQ (fun h=>?_) (fun h=>?_)|refine bB (fun h=>?_) (fun h=>?_)|refine aF (fun h=>?_) (fun h=>?_)|refine aH (fun h=>?_) (fun h=>?_)|refine FN ?_ ?_ ?_ ?_ rfl ?_|refine aR ?_ ?_|refine bC ?_ ?_|refine bM ?_ ?_|refine IA ?_ ?_ ?_|refine L1 ?_ ?_|refine L2 ?_ ?_|refine L3 ?_ ?_ ?_ ?_|refine L4 ?_ ?_|refine L5 ?_ ?_ ?_ ?_ ?_|refine L6 ?_ ?_ ?_ ?_ ?_|refine eK (d:=default) ?_ ?_|refine LK (by simp -implicitDefEqProofs only [m_get,D0,reduceIte,if_true,if_false]; first|done|exact rfl) ?_|refine LM (by simp -implicitDefEqProofs only [m_get,D0,reduceIte,if_true,if_false]; first|done|exact rfl) ?_ ?_|refine AC.p0 pZ ?_ (by simp -implicitDefEqProofs only [pures,H3,bK,G6]; done) ?_ ?_|refine AC.p0 Fu ?_ (by simp -implicitDefEqProofs only [pures,H3,bK,G6]; done) ?_ ?_|refine gV [] [(2,2)] (i+1) ?_ ?_ ?_ ?_ ?_ ?_|refine P0 (mW) ?_ ?_ ?_|refine ACV.of (mW) ?_ ?_ ?_|refine ACK.of (mW) ?_ ?_|refine P0 (mX) ?_ ?_ ?_|refine ACV.of (mX) ?_ ?_ ?_|refine ACK.of (mX) ?_ ?_|simp -implicitDefEqProofs only [NK,qA,bN,bD,bO,aJ,aP,qU,D1,D4,D5,D3,D0,D6,reduceIte,reduceCtorEq,qI,E2,E1,cL,E0,bH,dW,mO,dI,dJ,bS,cJ,cY,cC, *]
      all_goals first
        | omega
        | rfl
        | (rw [bL (by omega) (by omega)]; omega)
        | exact of_decide_eq_false (by assumption)
        | (rw [q0 (of_decide_eq_true (by assumption))]; constructor <;> omega)
        | (have hq:=q0 (of_decide_eq_true (by assumption))
           have ha:gA (l.getD (i - 1) default) (l.getD i default)=false:=by rw [hq] at h; exact h
           have hq3:=q2 (by assumption); clear q0 q1 q2 hT; refine hF ?_; clear hF; rw [Oi]; simp only [*,Q1,P4,Q0,G6,Y3,U7,W7,V4,Y2,Y8])
        | (have hq:=q0 (of_decide_eq_true (by assumption))
           have ha:gA (l.getD (i - 1) default) (l.getD i default)=true:=by rw [hq] at h; exact h
           clear q0 q1 q2 hF; refine hT ?_; clear hT; rw [Oi]; simp only [*,Q1,P4,Q0,G6,Y3,U7,W7,V4,Y2,Y8])
        | (have hq:=q1 (by assumption)
           clear q0 q1 q2 hF; refine hT ?_; clear hT; rw [Oi]; simp only [*,Q1,P4,Q0,G6,Y3,U7,W7,V4,Y2,Y8])
        | (clear q0 q1 q2 hT; refine hF ?_; clear hF; rw [Oi]; simp only [*,Q1,P4,Q0,G6,Y3,U7,W7,V4,Y2,Y8]; done)
        | skip
    · have hd:((i:Int)<(l.length:Int))=False:=by simp; omega
      have hg:_root_.id (i=l.length):=heq
      clear heq
      have hok2:dP l=true:=Lg fun j hj=>hok j (by have:i=l.length:=hg; omega)
      clear hok
      repeat' with_reducible first|refine aQ (fun h=>?_) (fun h=>?_)|refine bB (fun h=>?_) (fun h=>?_)|refine aF (fun h=>?_) (fun h=>?_)|refine aH (fun h=>?_) (fun h=>?_)|refine FN ?_ ?_ ?_ ?_ rfl ?_|refine aR ?_ ?_|refine bC ?_ ?_|refine bM ?_ ?_|refine IA ?_ ?_ ?_|refine L1 ?_ ?_|refine L2 ?_ ?_|refine L3 ?_ ?_ ?_ ?_|refine L4 ?_ ?_|refine L5 ?_ ?_ ?_ ?_ ?_|refine L6 ?_ ?_ ?_ ?_ ?_|refine eK (d:=default) ?_ ?_|refine LK (by simp -implicitDefEqProofs only [m_get,D0,reduceIte,if_true,if_false]; first|done|exact rfl) ?_|refine LM (by simp -implicitDefEqProofs only [m_get,D0,reduceIte,if_true,if_false]; first|done|exact rfl) ?_ ?_|refine AC.p0 pZ ?_ (by simp -implicitDefEqProofs only [pures,H3,bK,G6]; done) ?_ ?_|refine AC.p0 Fu ?_ (by simp -implicitDefEqProofs only [pures,H3,bK,G6]; done) ?_ ?_|refine P0 (mW) ?_ ?_ ?_|refine ACV.of (mW) ?_ ?_ ?_|refine ACK.of (mW) ?_ ?_|refine P0 (mX) ?_ ?_ ?_|refine ACV.of (mX) ?_ ?_ ?_|refine ACK.of (mX) ?_ ?_|simp -implicitDefEqProofs only [NK,qA,bN,bD,bO,aJ,aP,qU,D1,D4,D5,D3,D0,D6,reduceIte,reduceCtorEq,qI,E2,E1,cL,E0,bH,dW,mO,dI,dJ,bS,cJ,cY,cC, *]
      all_goals first
        | omega
        | exact Wk.refl _
        | skip
  all_goals first
    | omega
    | exact ⟨Nat.zero_le _,fun j hj=>absurd hj (Nat.not_lt_zero j)⟩
    | (simp -implicitDefEqProofs only [qA,bN,bD,bO,aJ,aP,qU,D1,D4,D5,D3,D0,D6,reduceIte,reduceCtorEq,qI,E2,E1,qZ,dI,dJ,qD,IM]; first | done | exact rfl | (simp; done))
    | skip

set_option maxHeartbeats 8000000
def NL:AFn:=⟨8,(.seq (.reg [o1 2 (.mv (.const .slnil))]) (.seq (.seq (.reg [o1 3 (.mv 0),o1 4 (.eqn false 3)]) (.cond 4 (.seq (.reg [o1 2 (.mv (.const .slnil))]) .ret) .skip)) (.seq (.reg [o1 5 (.bslice 51 2 0 []),o1 6 (.mv 0),o1 7 (.app 51 2 16 5 6),o1 2 (.mv 7)]) .ret))),[(2,none)]⟩
theorem ZF:xf D8 86=some NL:=by kernel_rfl
theorem zD {l:List Due} (hl:l.length≤1000000000):cX D8 86 [.slv 2 (l.map cC)] (.slv 2 (l.map cC),[],[]):=by
  cases l with
  | nil =>
    refine tR ?_ ?_
    all_goals refine aI bP ZF (by simp [NL]) fun hw _=>?_
    repeat' with_reducible first|refine aQ (fun h=>?_) (fun h=>?_)|refine bB (fun h=>?_) (fun h=>?_)|refine aF (fun h=>?_) (fun h=>?_)|refine aH (fun h=>?_) (fun h=>?_)|refine iW ?_ ?_ ?_ rfl ?_|refine aR ?_ ?_|refine bC ?_ ?_|refine bM ?_ ?_|refine eM (eW _ _ _) (m_get_same _ _ _) rfl ?_ ?_ ?_|refine eM (iP _ _) (m_get_same _ _ _) rfl ?_ ?_ ?_|refine eM (iQ _ _ _) (m_get_same _ _ _) rfl ?_ ?_ ?_|simp -implicitDefEqProofs only [NL,qA,cS,cW,aJ,aP,qU,D1,D4,D5,D3,D0,D6,reduceIte,reduceCtorEq,jU,jV,iH,sW,sX,bY,iP,iQ,eW, *]
    all_goals first
      | exact Wk.nil _
      | (simp [jG,puress,bK,bQ bK]; done)
      | (simp at hl ⊢; omega)
      | (refine Wk.of_eq ?_; simp [stT,AV.tr,frzS,AM.get,take_mapl]; done)
  | cons x l =>
    refine aI bP ZF (by simp [NL]) fun hw _=>?_
    repeat' with_reducible first|refine aQ (fun h=>?_) (fun h=>?_)|refine bB (fun h=>?_) (fun h=>?_)|refine aF (fun h=>?_) (fun h=>?_)|refine aH (fun h=>?_) (fun h=>?_)|refine iW ?_ ?_ ?_ rfl ?_|refine aR ?_ ?_|refine bC ?_ ?_|refine bM ?_ ?_|refine eM (eW _ _ _) (m_get_same _ _ _) rfl ?_ ?_ ?_|refine eM (iP _ _) (m_get_same _ _ _) rfl ?_ ?_ ?_|refine eM (iQ _ _ _) (m_get_same _ _ _) rfl ?_ ?_ ?_|simp -implicitDefEqProofs only [NL,qA,cS,cW,aJ,aP,qU,D1,D4,D5,D3,D0,D6,reduceIte,reduceCtorEq,jU,jV,iH,sW,sX,bY,iP,iQ,eW, *]
    all_goals first
      | exact Wk.nil _
      | (simp [jG,puress,bK,bQ bK]; done)
      | (simp at hl ⊢; omega)
      | (refine Wk.of_eq ?_; simp [stT,AV.tr,frzS,AM.get,take_mapl]; done)

theorem Jy (b:Nat):(mU 1 b).mp 1=.mapm b:=by simp [mU,jR]
def WC:AFn:=⟨48,(.seq (.reg [o1 3 (.box 51 1),o1 4 (.mv (.const .slnil)),o1 5 (.mv (ci 0))]) (.seq (.reg [o1 9 (.mv 0),o1 10 (.call 87 [9]),o1 6 (.mv 10)]) (.seq (.reg [o1 12 (.mv 6),o1 13 (.faddr 1 3),o1 14 (.ld 1 false 13),o1 15 (.lkp (.agg [(.int .i64 0),(.int .i64 0)]) true 12 14),o1 11 (.mv 15),o1 16 (.ext 11 0),o1 17 (.ext 11 1),o1 7 (.alloc 51 [(.int .i64 0),(.int .i64 0)]),o2 (.st 2 7 16),o1 8 (.mv 17)]) (.seq (.block 0 (.seq (.reg [o1 19 (.mv 0),o1 20 (.call 85 [19]),o1 21 (.not 20),o1 18 (.mv 21)]) (.cond 18 (.seq (.reg [o1 22 (.mv 0),o1 23 (.call 86 [22]),o1 4 (.mv 23),o1 5 (.mv (ci 40))]) .ret) (.seq (.reg [o1 25 (.faddr 0 3),o1 26 (.ld 1 false 25),o1 27 (.call 105 [26]),o1 28 (.not 27),o1 24 (.mv 28)]) (.cond 24 (.seq (.reg [o1 29 (.mv 0),o1 30 (.call 86 [29]),o1 4 (.mv 30),o1 5 (.mv (ci 50))]) .ret) (.seq (.reg [o1 32 (.faddr 1 3),o1 33 (.ld 1 false 32),o1 34 (.call 106 [33]),o1 35 (.not 34),o1 31 (.mv 35)]) (.cond 31 (.seq (.reg [o1 36 (.mv 0),o1 37 (.call 86 [36]),o1 4 (.mv 37),o1 5 (.mv (ci 40))]) .ret) (.seq (.reg [o1 39 (.mv 8),o1 38 (.mv 39)]) (.cond 38 (.seq (.reg [o1 40 (.mv 0),o1 41 (.call 86 [40]),o1 4 (.mv 41),o1 5 (.mv (ci 60))]) .ret) .skip))))))))) (.seq (.reg [o1 42 (.mv 6),o1 43 (.faddr 1 3),o1 44 (.ld 1 false 43),o1 45 (.ld 2 true 3),o2 (.mupd 42 44 45)]) (.seq (.reg [o1 46 (.mv 6),o1 47 (.call 88 [46]),o1 4 (.mv 47),o1 5 (.mv (ci 0))]) .ret)))))),[(4,none),(5,none)]⟩
theorem C6:xf D8 59=some WC:=by kernel_rfl
theorem OH {l:List Due} {d:Due} (hl:l.length≤10000):cX D8 59 [.slv 2 (l.map cC),.agg (cC d)] (.tup [.slv 2 ((pA l d).1.map cC),.int .i64 (pA l d).2],[],[]):=by
  have hbl:(iG l).length≤l.length:=by have:=yF l []; simpa [iG] using this
  have hpl:(oZ (iG l) ⟨d.tm,d.id⟩).length≤100000:=by have:=Ib (iG l) ⟨d.tm,d.id⟩; omega
  refine aI bP C6 (by simp [WC]) fun hw _=>?_
  clear hw
  have zd:=qD
  have zm:=Om
  repeat' with_reducible first|refine aQ (fun h=>?_) (fun h=>?_)|refine bB (fun h=>?_) (fun h=>?_)|refine aF (fun h=>?_) (fun h=>?_)|refine aH (fun h=>?_) (fun h=>?_)|refine FN ?_ ?_ ?_ ?_ rfl ?_|refine aR ?_ ?_|refine bC ?_ ?_|refine bM ?_ ?_|refine IA ?_ ?_ ?_|refine L1 ?_ ?_|refine L2 ?_ ?_|refine L3 ?_ ?_ ?_ ?_|refine L4 ?_ ?_|refine L5 ?_ ?_ ?_ ?_ ?_|refine L6 ?_ ?_ ?_ ?_ ?_|refine AC.n1 (zE ?_) ?_ (by simp -implicitDefEqProofs only [qU,pures,H3,bQ bK,lN,bK,G6]; done) ?_|refine AC.p0 (zC ?_) ?_ (by simp -implicitDefEqProofs only [qU,pures,H3,bQ bK,lN,bK,G6]; done) ?_ ?_|refine AC.p0 (zD ?_) ?_ (by simp -implicitDefEqProofs only [qU,pures,H3,bQ bK,lN,bK,G6]; done) ?_ ?_|refine AC.mc _ (sM ?_) ?_ (Nat.le_refl _) (by simp -implicitDefEqProofs only [qA,bN,bD,bO,aJ,aP,qU,D1,D4,D5,D3,D0,D6,reduceIte,reduceCtorEq,qI,E2,E1,qM, *]; exact rfl) (by exact rfl) ?_ ?_ ?_ ?_ ?_|refine Cg (by simp -implicitDefEqProofs only [m_get,D0,reduceIte,if_true,if_false]; first|done|exact rfl) ?_|refine Jg (by simp -implicitDefEqProofs only [m_get,D0,reduceIte,if_true,if_false]; first|done|exact rfl) ?_|refine P0 (mW) ?_ ?_ ?_|refine ACV.of (mW) ?_ ?_ ?_|refine ACK.of (mW) ?_ ?_|refine P0 (mX) ?_ ?_ ?_|refine ACV.of (mX) ?_ ?_ ?_|refine ACK.of (mX) ?_ ?_|simp -implicitDefEqProofs only [WC,qA,bN,bD,bO,aJ,aP,qU,D1,D4,D5,D3,D0,D6,reduceIte,reduceCtorEq,qI,E2,E1,cL,E0,bH,dW,mO,cC,Jy,rG,jR,Om,Int.reduceEq,Int.reduceNe, *]
  all_goals first
    | omega
    | exact hpl
    | (refine Wk.of_eq ?_; unfold pA; simp only [*,if_true,if_false,Bool.false_eq_true,reduceCtorEq]; done)
    | skip

end Go.Sak
