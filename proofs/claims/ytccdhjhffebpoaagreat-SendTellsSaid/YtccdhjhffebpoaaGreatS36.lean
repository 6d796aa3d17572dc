/- Part S36 of the proofs about the program: K40. Conditions: none. -/
import Derived.Test.YtccdhjhffebpoaaGreatS30
import Derived.Test.YtccdhjhffebpoaaGreatS33
import Derived.Test.YtccdhjhffebpoaaGreatS35
import Derived.Test.YtccdhjhffebpoaaGreatS04
import Derived.Test.YtccdhjhffebpoaaGreatProg
import Derived.KernelRfl
namespace Go.Sak
open Go Go.RowKit Go.Proofs
set_option linter.unusedVariables false
set_option linter.unusedSimpArgs false
set_option maxRecDepth 10000
set_option maxHeartbeats 8000000
def F15:AFn:=⟨133,(.seq (.reg [o1 0 (.mv (.const (.bool false)))]) (.seq (.reg [o1 11 (.build [(.int .i64 0),(.int .i64 0),(.int .i64 0),(.int .i64 0),(.int .i64 0),(.int .i64 0),(.bool false)] [(0,1,(ci 1)),(1,1,(ci 2))]),o1 12 (.call 47 [11]),o1 10 (.mv 12),o1 13 (.ext 10 0),o1 14 (.ext 10 1),o1 1 (.alloc 33 [(.int .i64 0),(.int .i64 0),(.int .i64 0),(.int .i64 0),(.int .i64 0),(.int .i64 0),(.bool false),(.int .i64 0),(.int .i64 0),(.int .i64 0),.slnil,.slnil,.slnil,(.int .i64 0),.slnil,(.int .i64 0),.slnil,(.int .i64 0),.slnil,.slnil]),o2 (.st 20 1 13),o1 2 (.mv 14)]) (.seq (.reg [o1 16 (.ld 20 true 1),o1 17 (.call 48 [16,(ci 0),(ci 1),(ci 7),(ci 0)]),o1 15 (.mv 17),o1 18 (.ext 15 0),o1 19 (.ext 15 1),o2 (.st 20 1 18)]) (.seq (.reg [o1 21 (.ld 20 true 1),o1 22 (.call 17 [21,(ci 0),(ci 100)]),o1 20 (.mv 22),o1 23 (.ext 20 0),o1 24 (.ext 20 1),o1 3 (.alloc 33 [(.int .i64 0),(.int .i64 0),(.int .i64 0),(.int .i64 0),(.int .i64 0),(.int .i64 0),(.bool false),(.int .i64 0),(.int .i64 0),(.int .i64 0),.slnil,.slnil,.slnil,(.int .i64 0),.slnil,(.int .i64 0),.slnil,(.int .i64 0),.slnil,.slnil]),o2 (.st 20 3 23),o1 4 (.mv 24)]) (.seq (.reg [o1 26 (.ld 20 true 1),o1 27 (.call 17 [26,(ci 0),(ci 5)]),o1 25 (.mv 27),o1 28 (.ext 25 0),o1 29 (.ext 25 1),o1 5 (.alloc 33 [(.int .i64 0),(.int .i64 0),(.int .i64 0),(.int .i64 0),(.int .i64 0),(.int .i64 0),(.bool false),(.int .i64 0),(.int .i64 0),(.int .i64 0),.slnil,.slnil,.slnil,(.int .i64 0),.slnil,(.int .i64 0),.slnil,(.int .i64 0),.slnil,.slnil]),o2 (.st 20 5 28),o1 6 (.mv 29)]) (.seq (.reg [o1 31 (.ld 20 true 1),o1 32 (.call 17 [31,(ci 1),(ci 100)]),o1 30 (.mv 32),o1 33 (.ext 30 0),o1 34 (.ext 30 1),o1 7 (.alloc 33 [(.int .i64 0),(.int .i64 0),(.int .i64 0),(.int .i64 0),(.int .i64 0),(.int .i64 0),(.bool false),(.int .i64 0),(.int .i64 0),(.int .i64 0),.slnil,.slnil,.slnil,(.int .i64 0),.slnil,(.int .i64 0),.slnil,(.int .i64 0),.slnil,.slnil]),o2 (.st 20 7 33),o1 8 (.mv 34)]) (.seq (.seq (.reg [o1 35 (.faddr 18 3),o1 36 (.ld 1 false 35),o1 37 (.len 36),o1 38 (.bin .neq 37 (ci 2)),o1 39 (.mv 38),o4 40 (.faddr 18 5) 39,o4 41 (.ld 1 false 40) 39,o4 42 (.len 41) 39,o4 43 (.bin .neq 42 (ci 2)) 39,o1 44 (.pick 39 (.const (.bool true)) 43),o1 45 (.mv 44),o4 46 (.faddr 19 3) 45,o4 47 (.ld 1 false 46) 45,o4 48 (.len 47) 45,o4 49 (.bin .neq 48 (ci 1)) 45,o1 50 (.pick 45 (.const (.bool true)) 49)]) (.cond 50 (.seq (.reg [o1 0 (.mv (.const (.bool false)))]) .ret) .skip)) (.seq (.reg [o1 51 (.ld 20 true 3),o1 52 (.call 49 [51]),o1 9 (.alloc 76 [.slnil,(.int .i64 0),(.int .i64 0),(.int .i64 0)]),o2 (.st 4 9 52)]) (.seq (.reg [o1 53 (.mv 4),o1 54 (.bin .eql 53 (ci 7)),o1 55 (.mv 54),o3 56 (.faddr 0 9) 55,o3 57 (.ld 1 false 56) 55,o3 58 (.bslice 3 1 1 [(ci 7)]) 55,o3 59 (.call 34 [57,58]) 55,o1 60 (.pick 55 59 (.const (.bool false))),o1 61 (.mv 60),o3 62 (.faddr 18 3) 61,o3 63 (.ld 1 false 62) 61,o3 64 (.iaddr 11 63 (ci 0)) 61,o3 65 (.faddr 0 64) 61,o3 66 (.ld 1 false 65) 61,o3 67 (.bin .eql 66 (ci 0)) 61,o1 68 (.pick 61 67 (.const (.bool false))),o1 69 (.mv 68),o3 70 (.faddr 18 3) 69,o3 71 (.ld 1 false 70) 69,o3 72 (.iaddr 11 71 (ci 0)) 69,o3 73 (.faddr 9 72) 69,o3 74 (.ld 1 false 73) 69,o3 75 (.bin .eql 74 (ci 1)) 69,o1 76 (.pick 69 75 (.const (.bool false))),o1 77 (.mv 76),o3 78 (.faddr 11 3) 77,o3 79 (.ld 1 false 78) 77,o3 80 (.len 79) 77,o3 81 (.bin .eql 80 (ci 0)) 77,o1 82 (.pick 77 81 (.const (.bool false))),o1 83 (.mv 82),o3 84 (.faddr 19 3) 83,o3 85 (.ld 1 false 84) 83,o3 86 (.iaddr 5 85 (ci 0)) 83,o3 87 (.ld 5 true 86) 83,o3 88 (.build [(.int .i64 0),(.int .i64 0),(.int .i64 0),(.int .i64 0),(.int .i64 0)] [(1,1,(ci 1)),(2,1,(ci 7)),(3,1,(ci 1))]) 83,o3 89 (.eqs false [(.int .i64),(.int .i64),(.int .i64),(.int .i64),(.int .i64)] 87 88) 83,o1 90 (.pick 83 89 (.const (.bool false))),o1 91 (.mv 90),o3 92 (.mv 6) 91,o3 93 (.bin .eql 92 (ci 5)) 91,o1 94 (.pick 91 93 (.const (.bool false))),o1 95 (.mv 94),o3 96 (.faddr 18 5) 95,o3 97 (.ld 1 false 96) 95,o3 98 (.iaddr 11 97 (ci 0)) 95,o3 99 (.faddr 4 98) 95,o3 100 (.ld 1 false 99) 95,o3 101 (.bin .eql 100 (ci 6)) 95,o1 102 (.pick 95 101 (.const (.bool false))),o1 103 (.mv 102),o3 104 (.mv 8) 103,o3 105 (.bin .eql 104 (ci 0)) 103,o1 106 (.pick 103 105 (.const (.bool false))),o1 107 (.mv 106),o3 108 (.call 22 [(ci 1)]) 107,o1 109 (.pick 107 108 (.const (.bool false))),o1 110 (.mv 109),o3 111 (.call 22 [(ci 11)]) 110,o1 112 (.pick 110 111 (.const (.bool false))),o1 113 (.mv 112),o3 114 (.call 22 [(ci 0)]) 113,o3 115 (.not 114) 113,o1 116 (.pick 113 115 (.const (.bool false))),o1 117 (.mv 116),o3 118 (.call 22 [(ci 12)]) 117,o3 119 (.not 118) 117,o1 120 (.pick 117 119 (.const (.bool false))),o1 121 (.mv 120),o3 122 (.call 23 [(ci 4)]) 121,o3 123 (.bin .eql 122 (ci 2)) 121,o1 124 (.pick 121 123 (.const (.bool false))),o1 125 (.mv 124),o3 126 (.call 23 [(ci 6)]) 125,o3 127 (.bin .eql 126 (ci 1)) 125,o1 128 (.pick 125 127 (.const (.bool false))),o1 129 (.mv 128),o3 130 (.call 23 [(ci 7)]) 129,o3 131 (.bin .eql 130 (ci 0)) 129,o1 132 (.pick 129 131 (.const (.bool false))),o1 0 (.mv 132)]) .ret))))))))),[(0,none)]⟩
theorem x15:xf Tryz.prog 15=some F15:=by kernel_rfl
def thrA (st kind val pc res:Int):Thread:=⟨st,kind,val,0,pc,0,0,0,false,res,0⟩
def SA0:State:=⟨⟨1,2,0,0,0,0,false⟩,⟨0,0,0⟩,[⟨0,0⟩,⟨1,0⟩],[],[],⟨0,[]⟩,⟨0,[]⟩,0,[thrA 0 0 0 0 0,thrA 0 0 0 0 0],[]⟩
def SA1:State:=⟨⟨1,2,0,0,0,0,false⟩,⟨0,0,0⟩,[⟨0,0⟩,⟨1,0⟩],[],[],⟨0,[]⟩,⟨0,[]⟩,0,[thrA 1 1 7 0 0,thrA 0 0 0 0 0],[]⟩
def SA2:State:=⟨⟨1,2,0,0,0,0,false⟩,⟨0,1,0⟩,[⟨0,7⟩,⟨1,0⟩],[],[],⟨0,[]⟩,⟨1,[]⟩,0,[thrA 0 1 7 0 1,thrA 0 0 0 0 0],[⟨0,1,7,1,0⟩]⟩
def SA3:State:=⟨⟨1,2,0,0,0,0,false⟩,⟨0,1,0⟩,[⟨0,7⟩,⟨1,0⟩],[0],[],⟨0,[]⟩,⟨0,[]⟩,0,[thrA 1 1 7 6 1,thrA 0 0 0 0 0],[⟨0,1,7,1,0⟩]⟩
theorem aw0:fabNew ⟨1,2,0,0,0,0,false⟩=(SA0,0):=by decide
theorem aw1:fabInvoke SA0 0 1 7 0=(SA1,0):=by decide
theorem aw2:sSteps SA1 0 100=(SA2,7):=by decide +kernel
theorem aw3:sSteps SA1 0 5=(SA3,5):=by decide +kernel
theorem aw4:sSteps SA1 1 100=(SA1,0):=by decide +kernel
theorem aw5:fabQueue SA2=⟨[7],2,0,0⟩:=by decide +kernel
theorem bd_A0:Bd SA0 100000:=by unfold Bd; decide
theorem bd_A1:Bd SA1 100000:=by unfold Bd; decide
theorem bd_A2:Bd SA2 100000:=by unfold Bd; decide
theorem conA47:Con Tryz.prog 47 [.agg [.int .i64 1,.int .i64 2,.int .i64 0,.int .i64 0,.int .i64 0,.int .i64 0,.bool false]] (.tup [.agg (encZ SA0),.int .i64 0],[],[]):=by
  have:=con47 (c_lg:=1) (c_th:=2) (c_pol:=0) (c_wt:=0) (c_spin:=0) (c_yld:=0) (c_single:=false)
  rw [aw0] at this; exact this
theorem con48s {s:State} {id kind val untl:Int} (h:Bd s 100000000):Con Tryz.prog 48 [.agg (encZ s),.int .i64 id,.int .i64 kind,.int .i64 val,.int .i64 untl] (.tup [.agg (encZ (fabInvoke s id kind val untl).1),.int .i64 (fabInvoke s id kind val untl).2],[],[]):=by
  obtain ⟨h1,h2,h3,h4,h5,h6,h7⟩:=h.all
  exact con48 h1 h2 h3 h4 h5 h6 h7
theorem con49s {s:State} (h:Bd s 100000000):Con Tryz.prog 49 [.agg (encZ s)] (.agg (encQ (fabQueue s)),[],[]):=by
  obtain ⟨h1,h2,h3,h4,h5,h6,h7⟩:=h.all
  exact con49 h1 h2 h3 h4 h5 h6 h7
theorem conA48:Con Tryz.prog 48 [.agg (encZ SA0),.int .i64 0,.int .i64 1,.int .i64 7,.int .i64 0] (.tup [.agg (encZ SA1),.int .i64 0],[],[]):=by
  have:=con48s (s:=SA0) (id:=0) (kind:=1) (val:=7) (untl:=0) (bd_A0.mono (by omega))
  rw [aw1] at this; exact this
theorem conA17a:Con Tryz.prog 17 [.agg (encZ SA1),.int .i64 0,.int .i64 100] (.tup [.agg (encZ SA2),.int .i64 7],[],[]):=by
  have:=con17 (s:=SA1) (id:=0) (m:=100) (bd_A1.mono (by omega))
  rw [aw2] at this; exact this
theorem conA17b:Con Tryz.prog 17 [.agg (encZ SA1),.int .i64 0,.int .i64 5] (.tup [.agg (encZ SA3),.int .i64 5],[],[]):=by
  have:=con17 (s:=SA1) (id:=0) (m:=5) (bd_A1.mono (by omega))
  rw [aw3] at this; exact this
theorem conA17c:Con Tryz.prog 17 [.agg (encZ SA1),.int .i64 1,.int .i64 100] (.tup [.agg (encZ SA1),.int .i64 0],[],[]):=by
  have:=con17 (s:=SA1) (id:=1) (m:=100) (bd_A1.mono (by omega))
  rw [aw4] at this; exact this
theorem conA49:Con Tryz.prog 49 [.agg (encZ SA2)] (.agg [.slv 1 [[.int .i64 7]],.int .i64 2,.int .i64 0,.int .i64 0],[],[]):=by
  have:=con49s (s:=SA2) (bd_A2.mono (by omega))
  rw [aw5] at this; exact this
theorem conA34:Con Tryz.prog 34 [.slv 1 [[.int .i64 7]],.slv 1 [[.int .i64 7]]] (.bool true,[],[]):=by
  have:=con34 (a:=[7]) (b:=[7]) (by simp)
  simp only [decide_true] at this; exact this
theorem za_18:(encZ SA2)[18]?=some (.slv 11 [[.int .i64 0,.int .i64 1,.int .i64 7,.int .i64 0,.int .i64 0,.int .i64 0,.int .i64 0,.int .i64 0,.bool false,.int .i64 1,.int .i64 0],[.int .i64 0,.int .i64 0,.int .i64 0,.int .i64 0,.int .i64 0,.int .i64 0,.int .i64 0,.int .i64 0,.bool false,.int .i64 0,.int .i64 0]]):=rfl
theorem za_19:(encZ SA2)[19]?=some (.slv 5 [[.int .i64 0,.int .i64 1,.int .i64 7,.int .i64 1,.int .i64 0]]):=rfl
theorem za_11:(encZ SA2)[11]?=some (.slv 1 []):=rfl
theorem zb_18:(encZ SA3)[18]?=some (.slv 11 [[.int .i64 1,.int .i64 1,.int .i64 7,.int .i64 0,.int .i64 6,.int .i64 0,.int .i64 0,.int .i64 0,.bool false,.int .i64 1,.int .i64 0],[.int .i64 0,.int .i64 0,.int .i64 0,.int .i64 0,.int .i64 0,.int .i64 0,.int .i64 0,.int .i64 0,.bool false,.int .i64 0,.int .i64 0]]):=rfl
theorem in_1:sInside 1=true:=rfl
theorem in_11:sInside 11=true:=rfl
theorem in_0:sInside 0=false:=rfl
theorem in_12:sInside 12=false:=rfl
theorem nr_4:sNear 4=2:=rfl
theorem nr_6:sNear 6=1:=rfl
theorem nr_7:sNear 7=0:=rfl
theorem nc_1:((1:Nat):Int)=1:=rfl
theorem nc_2:((2:Nat):Int)=2:=rfl
theorem ia_lit {f:Nat→Option Blk} {sz:Nat} {r:List AV} {rows:List (List AV)}:doIaddr f sz (.slv sz (r :: rows)) (.int .i64 0)=some { v:=.pv r }:=by
  simp [doIaddr]
theorem con15:Con Tryz.prog 15 [] (.bool true,[],[]):=by
  refine mcb_of_vc mix x15 (by simp [F15]) fun hw _=>?_
  clear hw
  repeat' with_reducible first|refine gTn_of (fun h=>?_) (fun h=>?_)|refine gT_of (fun h=>?_) (fun h=>?_)|refine caseTn_of (fun h=>?_) (fun h=>?_)|refine caseT_of (fun h=>?_) (fun h=>?_)|refine FN ?_ ?_ ?_ ?_ rfl ?_|refine kv_ifn ?_ ?_|refine kv_if ?_ ?_|refine k_if ?_ ?_|refine IA ?_ ?_ ?_|refine L1 ?_ ?_|refine L2 ?_ ?_|refine L3 ?_ ?_ ?_ ?_|refine L4 ?_ ?_|refine L5 ?_ ?_ ?_ ?_ ?_|refine L6 ?_ ?_ ?_ ?_ ?_|refine AC.p0 conA47 ?_ (by simp -implicitDefEqProofs only [qU,pure_encZ]; done) ?_ ?_|refine AC.p0 conA48 ?_ (by simp -implicitDefEqProofs only [qU,pure_encZ]; done) ?_ ?_|refine AC.p0 conA17a ?_ (by simp -implicitDefEqProofs only [qU,pure_encZ]; done) ?_ ?_|refine AC.p0 conA17b ?_ (by simp -implicitDefEqProofs only [qU,pure_encZ]; done) ?_ ?_|refine AC.p0 conA17c ?_ (by simp -implicitDefEqProofs only [qU,pure_encZ]; done) ?_ ?_|refine AC.p0 conA49 ?_ (by simp -implicitDefEqProofs only [qU,pure_encZ]; done) ?_ ?_|refine ACV.of conA34 ?_ ?_ ?_|refine AC.viewAll ?_ ?_ ?_|refine P0 (con22) ?_ ?_ ?_|refine ACV.of (con22) ?_ ?_ ?_|refine ACK.of (con22) ?_ ?_|refine P0 (con23) ?_ ?_ ?_|refine ACV.of (con23) ?_ ?_ ?_|refine ACK.of (con23) ?_ ?_|simp -implicitDefEqProofs only [F15,qA,ld_0,ld_pv,st_0,splice,doEqs,qU,List.reduceReplicate,Nat.reduceAdd,Nat.reduceSub,Nat.reduceLeDiff,Nat.reduceEqDiff,Nat.reduceMul,reduceIte,reduceCtorEq,qI,Nat.reduceLT,Nat.reduceBEq,up_s,Int.toNat_natCast,encT,qZ,za_18,za_19,za_11,zb_18,in_1,in_11,in_0,in_12,nr_4,nr_6,nr_7,nc_1,nc_2,ia_lit,Int.natCast_zero,Int.reduceEq,Int.reduceNe,doBslice, *]
  all_goals exact Wk.refl _

end Go.Sak
