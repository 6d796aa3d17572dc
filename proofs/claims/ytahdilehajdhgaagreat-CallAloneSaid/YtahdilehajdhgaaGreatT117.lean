/- Part T117 of the proofs about the program: K221, K222. Conditions: none. -/
import Derived.Test.YtahdilehajdhgaaGreatT109
import Derived.Test.YtahdilehajdhgaaGreatT116
open Go.Sak.Config renaming mk→E3
open Go.Sak.Event renaming mk→D7
open Int renaming lt_irrefl→O5,natCast_zero→F1,reduceEq→F4,reduceNe→F5,toNat_natCast→E0
open List renaming foldl_nil→Z2,length_set→G8,map_cons→N4,map_nil→T6,reduceReplicate→D1,take_of_length_le→F3,take_zero→R3
open Nat renaming reduceAdd→D4,reduceBEq→E1,reduceEqDiff→D0,reduceLT→E2,reduceLeDiff→D3,reduceMul→D6,reduceSub→D5
open Go.Sak.State renaming mk→E4
open Go.Proofs.Tryz renaming prog→D8
open Go.Sak.Wk renaming refl→G3
open Go.Sak.Word renaming mk→E8
namespace Go.Sak
open Go Go.RowKit Go.Proofs
set_option linter.unusedVariables false
set_option linter.unusedSimpArgs false
set_option maxRecDepth 10000
set_option maxHeartbeats 8000000
theorem Wx {b:Nat} {c:List AV} {l:List Thread} {m0:AM} (hc:jX [3] c=true):gM 5 m0 (.tup [],inlU m0 [(3,.rows 42 11 (l.map bH)),(2,.rows 33 20 [c])],[]) (.tup []) [(2,.rows 33 20 [c]),(3,.rows 42 11 (l.map bH))] b:=by
  suffices hf:gM 5 m0 (.tup [],inlU m0 [(2,.rows 33 20 [c]),(3,.rows 42 11 (l.map bH))],[]) (.tup []) [(2,.rows 33 20 [c]),(3,.rows 42 11 (l.map bH))] b by
    obtain ⟨v',m',b',q1,q2,q3,q4⟩:=hf
    refine ⟨v',m',b',q1,q2,q3.trans ?_,q4⟩
    simp only []
    rw [← mP (by simp),← mP (by simp)]
    funext k
    simp only [AM.get]
    by_cases e2:k=2
    · subst e2; simp
    · by_cases e3:k=3
      · subst e3; simp
      · simp [e2,e3]
  refine sQ [] [] (by simp [stOk]) rfl ?_ (by simp) (AV.tr_pure _ _ rfl)
  have h1:trs (stT 5 20 [] [] [(2,.rows 33 20 [c]),(3,.rows 42 11 (l.map bH))]) c=c:=jD (L:=[3]) (fun g hg=>by
    have:g=3:=by simpa using hg
    subst this
    exact ⟨fun _ _=>by simp [stT,nameT],fun _=>by simp [stT,nameT],by simp [stT,nameT]⟩) c hc
  simp only [stM,nameT,Blk.tr,trss,List.contains_nil,Bool.false_eq_true,if_false,lk,Option.isSome_none,or_false,E2,if_true]
  rw [h1,eB _ pure_encT]
def MX:AFn:=⟨38,(.seq (.reg [o1 4 (.faddr 18 1),o1 5 (.ld 1 false 4),o1 6 (.mv 0),o1 7 (.iaddr 11 5 6),o1 3 (.mv 7)]) (.seq (.seq (.reg [o1 8 (.mv 3),o1 9 (.nilchk 8),o1 10 (.faddr 8 9),o2 (.st 1 10 (.const (.bool true)))]) (.seq (.reg [o1 11 (.mv 3),o1 12 (.nilchk 11),o1 13 (.faddr 0 12),o1 14 (.ld 1 false 13),o1 15 (.bin .neq 14 (ci 2))]) (.cond 15 .ret .skip))) (.seq (.reg [o1 17 (.faddr 13 1),o1 18 (.ld 2 true 17),o1 19 (.mv 0),o1 20 (.call 44 [18,19]),o1 16 (.mv 20),o1 21 (.ext 16 0),o1 22 (.ext 16 1),o1 23 (.faddr 13 1),o2 (.st 2 23 21)]) (.seq (.reg [o1 25 (.faddr 15 1),o1 26 (.ld 2 true 25),o1 27 (.mv 0),o1 28 (.call 44 [26,27]),o1 24 (.mv 28),o1 29 (.ext 24 0),o1 30 (.ext 24 1),o1 31 (.faddr 15 1),o2 (.st 2 31 29)]) (.reg [o1 32 (.mv 3),o1 33 (.mv 3),o1 34 (.nilchk 33),o1 35 (.ld 11 true 34),o1 36 (.call 45 [35]),o1 37 (.nilchk 32),o2 (.st 11 37 36)]))))),[]⟩
theorem XP:xf D8 43=some MX:=by kernel_rfl
theorem KG {aW aV:Int} {aN aX:Int} {aG aO:Int} {aA:Bool} {bT bV bU:Int} {aB:List Slot} {aD aC:List Int} {aZ:Int} {aT:List Int} {bA:Int} {aU:List Int} {aL:Int} {aE:List Thread} {aK:List Entry} {id:Int} (h1:aB.length≤100000000) (h2:aD.length≤100000000) (h3:aC.length≤100000000) (h4:aT.length≤100000000) (h5:aU.length≤100000000) (h6:aE.length≤100000000) (h7:aK.length≤100000000) (hid:0≤id∧id.toNat<aE.length) (hst:¬ (aE.getD id.toNat default).st=2):sD D8 43 [.int .i64 id,.ptr 2 0 0] (.tup [],inlU [(2,.rows 33 20 [[.int .i64 aW,.int .i64 aV,.int .i64 aN,.int .i64 aX,.int .i64 aG,.int .i64 aO,.bool aA,.int .i64 bT,.int .i64 bV,.int .i64 bU,.slv 2 (aB.map cU),.slv 1 (aD.map aS),.slv 1 (aC.map aS),.int .i64 aZ,.slv 1 (aT.map aS),.int .i64 bA,.slv 1 (aU.map aS),.int .i64 aL,.slm 3 aE.length,.slv 5 (aK.map cO)]]),(3,.rows 42 11 ((aE).map bH))] [(3,.rows 42 11 ((aE.set id.toNat (nD (aE.getD id.toNat default))).map bH)),(2,.rows 33 20 [[.int .i64 aW,.int .i64 aV,.int .i64 aN,.int .i64 aX,.int .i64 aG,.int .i64 aO,.bool aA,.int .i64 bT,.int .i64 bV,.int .i64 bU,.slv 2 (aB.map cU),.slv 1 (aD.map aS),.slv 1 (aC.map aS),.int .i64 aZ,.slv 1 (aT.map aS),.int .i64 bA,.slv 1 (aU.map aS),.int .i64 aL,.slm 3 aE.length,.slv 5 (aK.map cO)]])],[]) (AM.get [(2,.rows 33 20 [[.int .i64 aW,.int .i64 aV,.int .i64 aN,.int .i64 aX,.int .i64 aG,.int .i64 aO,.bool aA,.int .i64 bT,.int .i64 bV,.int .i64 bU,.slv 2 (aB.map cU),.slv 1 (aD.map aS),.slv 1 (aC.map aS),.int .i64 aZ,.slv 1 (aT.map aS),.int .i64 bA,.slv 1 (aU.map aS),.int .i64 aL,.slm 3 aE.length,.slv 5 (aK.map cO)]]),(3,.rows 42 11 ((aE).map bH))]) 5:=by
  suffices hh:∀ e,(∀ b,gM 5 [(2,.rows 33 20 [[.int .i64 aW,.int .i64 aV,.int .i64 aN,.int .i64 aX,.int .i64 aG,.int .i64 aO,.bool aA,.int .i64 bT,.int .i64 bV,.int .i64 bU,.slv 2 (aB.map cU),.slv 1 (aD.map aS),.slv 1 (aC.map aS),.int .i64 aZ,.slv 1 (aT.map aS),.int .i64 bA,.slv 1 (aU.map aS),.int .i64 aL,.slm 3 aE.length,.slv 5 (aK.map cO)]]),(3,.rows 42 11 ((aE).map bH))] e (.tup []) [(2,.rows 33 20 [[.int .i64 aW,.int .i64 aV,.int .i64 aN,.int .i64 aX,.int .i64 aG,.int .i64 aO,.bool aA,.int .i64 bT,.int .i64 bV,.int .i64 bU,.slv 2 (aB.map cU),.slv 1 (aD.map aS),.slv 1 (aC.map aS),.int .i64 aZ,.slv 1 (aT.map aS),.int .i64 bA,.slv 1 (aU.map aS),.int .i64 aL,.slm 3 aE.length,.slv 5 (aK.map cO)]]),(3,.rows 42 11 ((aE.set id.toNat (nD (aE.getD id.toNat default))).map bH))] b)→sD D8 43 [.int .i64 id,.ptr 2 0 0] e (AM.get [(2,.rows 33 20 [[.int .i64 aW,.int .i64 aV,.int .i64 aN,.int .i64 aX,.int .i64 aG,.int .i64 aO,.bool aA,.int .i64 bT,.int .i64 bV,.int .i64 bU,.slv 2 (aB.map cU),.slv 1 (aD.map aS),.slv 1 (aC.map aS),.int .i64 aZ,.slv 1 (aT.map aS),.int .i64 bA,.slv 1 (aU.map aS),.int .i64 aL,.slm 3 aE.length,.slv 5 (aK.map cO)]]),(3,.rows 42 11 ((aE).map bH))]) 5 from hh _ fun b=>Wx (by simp [jX,AV.inN,gH pure_encI,gH pure_encS,gH pure_encE])
  intro e hf
  have hi1:id.toNat<aE.length:=hid.2
  refine aI bP XP (by simp [MX]) fun hw _=>?_
  clear hw
  repeat' with_reducible first|refine aQ (fun h=>?_) (fun h=>?_)|refine bB (fun h=>?_) (fun h=>?_)|refine aF (fun h=>?_) (fun h=>?_)|refine aH (fun h=>?_) (fun h=>?_)|refine FN ?_ ?_ ?_ ?_ rfl ?_|refine aR ?_ ?_|refine bC ?_ ?_|refine bM ?_ ?_|refine IA ?_ ?_ ?_|refine L1 ?_ ?_|refine L2 ?_ ?_|refine L3 ?_ ?_ ?_ ?_|refine L4 ?_ ?_|refine L5 ?_ ?_ ?_ ?_ ?_|refine L6 ?_ ?_ ?_ ?_ ?_|refine P0 (HV ?_) ?_ ?_ ?_|refine P0 sL ?_ ?_ ?_|simp -implicitDefEqProofs only [MX,qA,bN,bD,bO,aJ,aP,qU,D1,D4,D5,D3,D0,D6,reduceIte,reduceCtorEq,qI,E2,E1,cL,E0,bH,dO,hst,set_set,bG,nD, *]
  all_goals first
    | omega
    | exact hf _
    | (constructor <;> omega)
    | (simp [hst]; done)
    | skip

theorem KH {aW aV:Int} {aN aX:Int} {aG aO:Int} {aA:Bool} {bT bV bU:Int} {aB:List Slot} {aD aC:List Int} {aZ:Int} {aT:List Int} {bA:Int} {aU:List Int} {aL:Int} {aE:List Thread} {aK:List Entry} {id:Int} (h1:aB.length≤100000000) (h2:aD.length≤100000000) (h3:aC.length≤100000000) (h4:aT.length≤100000000) (h5:aU.length≤100000000) (h6:aE.length≤100000000) (h7:aK.length≤100000000) (hid:0≤id∧id.toNat<aE.length) (hst:(aE.getD id.toNat default).st=2):sD D8 43 [.int .i64 id,.ptr 2 0 0] (.tup [],inlU [(2,.rows 33 20 [[.int .i64 aW,.int .i64 aV,.int .i64 aN,.int .i64 aX,.int .i64 aG,.int .i64 aO,.bool aA,.int .i64 bT,.int .i64 bV,.int .i64 bU,.slv 2 (aB.map cU),.slv 1 (aD.map aS),.slv 1 (aC.map aS),.int .i64 aZ,.slv 1 (aT.map aS),.int .i64 bA,.slv 1 (aU.map aS),.int .i64 aL,.slm 3 aE.length,.slv 5 (aK.map cO)]]),(3,.rows 42 11 ((aE).map bH))] [(3,.rows 42 11 ((aE.set id.toNat (oR (nD (aE.getD id.toNat default)))).map bH)),(2,.rows 33 20 [[.int .i64 aW,.int .i64 aV,.int .i64 aN,.int .i64 aX,.int .i64 aG,.int .i64 aO,.bool aA,.int .i64 bT,.int .i64 bV,.int .i64 bU,.slv 2 (aB.map cU),.slv 1 (aD.map aS),.slv 1 (aC.map aS),.int .i64 (gJ (D7 aZ aT) id).1.ep,.slv 1 ((gJ (D7 aZ aT) id).1.ln.map aS),.int .i64 (gJ (D7 bA aU) id).1.ep,.slv 1 ((gJ (D7 bA aU) id).1.ln.map aS),.int .i64 aL,.slm 3 aE.length,.slv 5 (aK.map cO)]])],[]) (AM.get [(2,.rows 33 20 [[.int .i64 aW,.int .i64 aV,.int .i64 aN,.int .i64 aX,.int .i64 aG,.int .i64 aO,.bool aA,.int .i64 bT,.int .i64 bV,.int .i64 bU,.slv 2 (aB.map cU),.slv 1 (aD.map aS),.slv 1 (aC.map aS),.int .i64 aZ,.slv 1 (aT.map aS),.int .i64 bA,.slv 1 (aU.map aS),.int .i64 aL,.slm 3 aE.length,.slv 5 (aK.map cO)]]),(3,.rows 42 11 ((aE).map bH))]) 5:=by
  suffices hh:∀ e,(∀ b,gM 5 [(2,.rows 33 20 [[.int .i64 aW,.int .i64 aV,.int .i64 aN,.int .i64 aX,.int .i64 aG,.int .i64 aO,.bool aA,.int .i64 bT,.int .i64 bV,.int .i64 bU,.slv 2 (aB.map cU),.slv 1 (aD.map aS),.slv 1 (aC.map aS),.int .i64 aZ,.slv 1 (aT.map aS),.int .i64 bA,.slv 1 (aU.map aS),.int .i64 aL,.slm 3 aE.length,.slv 5 (aK.map cO)]]),(3,.rows 42 11 ((aE).map bH))] e (.tup []) [(2,.rows 33 20 [[.int .i64 aW,.int .i64 aV,.int .i64 aN,.int .i64 aX,.int .i64 aG,.int .i64 aO,.bool aA,.int .i64 bT,.int .i64 bV,.int .i64 bU,.slv 2 (aB.map cU),.slv 1 (aD.map aS),.slv 1 (aC.map aS),.int .i64 (gJ (D7 aZ aT) id).1.ep,.slv 1 ((gJ (D7 aZ aT) id).1.ln.map aS),.int .i64 (gJ (D7 bA aU) id).1.ep,.slv 1 ((gJ (D7 bA aU) id).1.ln.map aS),.int .i64 aL,.slm 3 aE.length,.slv 5 (aK.map cO)]]),(3,.rows 42 11 ((aE.set id.toNat (oR (nD (aE.getD id.toNat default)))).map bH))] b)→sD D8 43 [.int .i64 id,.ptr 2 0 0] e (AM.get [(2,.rows 33 20 [[.int .i64 aW,.int .i64 aV,.int .i64 aN,.int .i64 aX,.int .i64 aG,.int .i64 aO,.bool aA,.int .i64 bT,.int .i64 bV,.int .i64 bU,.slv 2 (aB.map cU),.slv 1 (aD.map aS),.slv 1 (aC.map aS),.int .i64 aZ,.slv 1 (aT.map aS),.int .i64 bA,.slv 1 (aU.map aS),.int .i64 aL,.slm 3 aE.length,.slv 5 (aK.map cO)]]),(3,.rows 42 11 ((aE).map bH))]) 5 from hh _ fun b=>Wx (by simp [jX,AV.inN,gH pure_encI,gH pure_encS,gH pure_encE])
  intro e hf
  have hL:nD (aE.getD id.toNat default)=⟨2,(aE.getD id.toNat default).kind,(aE.getD id.toNat default).val,(aE.getD id.toNat default).untl,(aE.getD id.toNat default).pc,(aE.getD id.toNat default).reg,(aE.getD id.toNat default).seen,(aE.getD id.toNat default).tries,true,(aE.getD id.toNat default).res,(aE.getD id.toNat default).got⟩:=by rw [← hst]; rfl
  rw [hL] at hf
  clear hL
  have hi1:id.toNat<aE.length:=hid.2
  refine aI bP XP (by simp [MX]) fun hw _=>?_
  clear hw
  repeat' with_reducible first|refine aQ (fun h=>?_) (fun h=>?_)|refine bB (fun h=>?_) (fun h=>?_)|refine aF (fun h=>?_) (fun h=>?_)|refine aH (fun h=>?_) (fun h=>?_)|refine FN ?_ ?_ ?_ ?_ rfl ?_|refine aR ?_ ?_|refine bC ?_ ?_|refine bM ?_ ?_|refine IA ?_ ?_ ?_|refine L1 ?_ ?_|refine L2 ?_ ?_|refine L3 ?_ ?_ ?_ ?_|refine L4 ?_ ?_|refine L5 ?_ ?_ ?_ ?_ ?_|refine L6 ?_ ?_ ?_ ?_ ?_|refine P0 (HV ?_) ?_ ?_ ?_|refine P0 sL ?_ ?_ ?_|simp -implicitDefEqProofs only [MX,qA,bN,bD,bO,aJ,aP,qU,D1,D4,D5,D3,D0,D6,reduceIte,reduceCtorEq,qI,E2,E1,cL,E0,bH,dO,hst,set_set,bG,nD, *]
  all_goals first
    | omega
    | exact hf _
    | (constructor <;> omega)
    | (simp [hst]; done)
    | skip

def mT (s:State):AM:=[(2,.rows 33 20 [dM s (.slm 3 s.threads.length) (.slv 5 (s.log.map cO))]),(3,.rows 42 11 (s.threads.map bH))]
def mR (s:State):AM:=[(3,.rows 42 11 (s.threads.map bH)),(2,.rows 33 20 [dM s (.slm 3 s.threads.length) (.slv 5 (s.log.map cO))])]
theorem KI {s:State} {id:Int} (h:Bd s 100000000) (hid:0≤id∧id.toNat<s.threads.length):sD D8 43 [.int .i64 id,.ptr 2 0 0] (.tup [],inlU (mT s) (mR (gC s id)),[]) (mT s).get 5:=by
  obtain ⟨⟨aW,aV,aN,aX,aG,aO,aA⟩,⟨bT,bV,bU⟩,aB,aD,aC,⟨aZ,aT⟩,⟨bA,aU⟩,aL,aE,aK⟩:=s
  obtain ⟨h1,h2,h3,h4,h5,h6,h7⟩:=h.all
  by_cases hst:(aE.getD id.toNat default).st=2
  · have e:gC (E4 (E3 aW aV aN aX aG aO aA) (E8 bT bV bU) aB aD aC (D7 aZ aT) (D7 bA aU) aL aE aK) id=dD (cH (cQ (E4 (E3 aW aV aN aX aG aO aA) (E8 bT bV bU) aB aD aC (D7 aZ aT) (D7 bA aU) aL aE aK) (gJ ⟨aZ,aT⟩ id).1) (gJ ⟨bA,aU⟩ id).1) id (oR (nD (aE.getD id.toNat default))):=if_neg (fun h=>h hst)
    rw [e]
    unfold mT mR
    simp only [dD,cQ,cH,G8,dM]
    exact KH h1 h2 h3 h4 h5 h6 h7 hid hst
  · have e:gC (E4 (E3 aW aV aN aX aG aO aA) (E8 bT bV bU) aB aD aC (D7 aZ aT) (D7 bA aU) aL aE aK) id=dD (E4 (E3 aW aV aN aX aG aO aA) (E8 bT bV bU) aB aD aC (D7 aZ aT) (D7 bA aU) aL aE aK) id (nD (aE.getD id.toNat default)):=if_pos hst
    rw [e]
    unfold mT mR
    simp only [dD,G8,dM]
    exact KG h1 h2 h3 h4 h5 h6 h7 hid hst
set_option maxHeartbeats 8000000
def Tn:AFn:=⟨57,(.seq (.reg [o1 2 (.box 33 0),o1 4 (.alloc 33 [(.int .i64 0),(.int .i64 0),(.int .i64 0),(.int .i64 0),(.int .i64 0),(.int .i64 0),(.bool false),(.int .i64 0),(.int .i64 0),(.int .i64 0),.slnil,.slnil,.slnil,(.int .i64 0),.slnil,(.int .i64 0),.slnil,(.int .i64 0),.slnil,.slnil]),o1 5 (.mv (.const .slnil)),o1 6 (.mv (ci 0))]) (.seq (.reg [o1 13 (.ld 20 true 2),o1 14 (.call 41 [13,(ci (-1))]),o1 7 (.alloc 33 [(.int .i64 0),(.int .i64 0),(.int .i64 0),(.int .i64 0),(.int .i64 0),(.int .i64 0),(.bool false),(.int .i64 0),(.int .i64 0),(.int .i64 0),.slnil,.slnil,.slnil,(.int .i64 0),.slnil,(.int .i64 0),.slnil,(.int .i64 0),.slnil,.slnil]),o2 (.st 20 7 14)]) (.seq (.block 0 (.seq (.reg [o1 16 (.ld 20 true 2),o1 17 (.call 18 [16]),o1 18 (.not 17),o1 15 (.mv 18)]) (.cond 15 (.seq (.reg [o1 19 (.ld 20 true 7),o2 (.st 20 4 19),o1 5 (.mv (.const .slnil)),o1 6 (.mv (ci 20))]) .ret) (.seq (.reg [o1 21 (.mv 1),o1 22 (.bin .lss 21 (ci 0)),o1 23 (.mv 22),o4 24 (.mv 1) 23,o4 25 (.faddr 17 2) 23,o4 26 (.ld 1 false 25) 23,o4 27 (.bin .sub (ci 1099511627776) 26) 23,o4 28 (.bin .gtr 24 27) 23,o1 29 (.pick 23 (.const (.bool true)) 28),o1 20 (.mv 29)]) (.cond 20 (.seq (.reg [o1 30 (.ld 20 true 7),o2 (.st 20 4 30),o1 5 (.mv (.const .slnil)),o1 6 (.mv (ci 50))]) .ret) .skip))))) (.seq (.reg [o1 31 (.faddr 17 7),o1 32 (.ld 1 false 31),o1 33 (.mv 1),o1 34 (.bin .add 32 33),o1 35 (.faddr 17 7),o2 (.st 1 35 34)]) (.seq (.regT [o1 37 (.ld 20 true 2),o1 38 (.call 21 [37]),o1 39 (.faddr 17 7),o1 40 (.ld 1 false 39),o1 41 (.call 42 [38,40]),o1 36 (.mv 41),o1 42 (.ext 36 0),o1 43 (.ext 36 1),o1 8 (.mv 42),o1 9 (.mv 43)] [(0,2),(1,2),(0,3),(1,3)]) (.seq (.reg [o1 44 (.mkfn (.func 43) [] [7]),o1 10 (.mv 44)]) (.seq (.seq (.reg [o1 45 (.mv 8),o1 46 (.len 45),o1 47 (.mv (ci 0))]) (.block 1 (.loop (.seq (.reg [o1 48 (.bin .lss 47 46)]) (.seq (.cond 48 .skip (.exit 1)) (.seq (.block 2 (.seq (.reg [o1 49 (.iaddr 1 45 47),o1 50 (.ld 1 false 49),o1 12 (.mv 50)]) (.reg [o1 51 (.mv 10),o1 52 (.mv 12),o1 53 (.callv 51 [52])]))) (.reg [o1 54 (.bin .add 47 (ci 1)),o1 47 (.mv 54)]))))))) (.seq (.reg [o1 55 (.ld 20 true 7),o1 56 (.mv 8),o2 (.st 20 4 55),o1 5 (.mv 56),o1 6 (.mv (ci 0))]) .ret)))))))),[(4,some (20,true)),(5,none),(6,none)]⟩
theorem Fi:xf D8 16=some Tn:=by kernel_rfl
theorem OB {aW aV:Int} {aN aX:Int} {aG aO:Int} {aA:Bool} {bT bV bU:Int} {aB:List Slot} {aD aC:List Int} {aZ:Int} {aT:List Int} {bA:Int} {aU:List Int} {aL:Int} {aE:List Thread} {aK:List Entry} (h1:aB.length≤100000) (h2:aD.length≤100000) (h3:aC.length≤100000) (h4:aT.length≤100000) (h5:aU.length≤100000) (h6:aE.length≤100000) (h7:aK.length≤100000):cX D8 21 [.agg [.int .i64 aW,.int .i64 aV,.int .i64 aN,.int .i64 aX,.int .i64 aG,.int .i64 aO,.bool aA,.int .i64 bT,.int .i64 bV,.int .i64 bU,.slv 2 (aB.map cU),.slv 1 (aD.map aS),.slv 1 (aC.map aS),.int .i64 aZ,.slv 1 (aT.map aS),.int .i64 bA,.slv 1 (aU.map aS),.int .i64 aL,.slv 11 (aE.map bH),.slv 5 (aK.map cO)]] (.slv 2 ((kI (E4 (E3 aW aV aN aX aG aO aA) (E8 bT bV bU) aB aD aC (D7 aZ aT) (D7 bA aU) aL aE aK)).map cC),[],[]):=Vm (s:=(E4 (E3 aW aV aN aX aG aO aA) (E8 bT bV bU) aB aD aC (D7 aZ aT) (D7 bA aU) aL aE aK)) ⟨h1,h2,h3,h4,h5,h6,h7⟩
theorem Zr (b r o:Nat):(mU 5 b).p 2 r o=.ptr 2 r o:=rfl
theorem Zs (b l:Nat):(mU 5 b).s 3 l=.slm 3 l:=rfl
theorem Pc (b:Nat) (o:Option Blk):rG 5 b (2,o)=(2,o.map fun B=>B.tr (mU 5 b)):=rfl
theorem Pf (b:Nat) (o:Option Blk):rG 5 b (3,o)=(3,o.map fun B=>B.tr (mU 5 b)):=rfl
theorem pC (s:State):(bR s)[17]?=some (.int .i64 s.now):=rfl
theorem JW {s:State} {n:Int} (h:Bd s 100000) (hck:bZ s=false):cX D8 16 [.agg (bR s),.int .i64 n] (.tup [.agg (bR s),.slv 1 [],.int .i64 20],[],[]):=by
  have hb8:=h.mono (n:=100000000) (by omega)
  refine aI bP Fi (by simp [Tn]) fun hw _=>?_
  clear hw h
  repeat' with_reducible first|refine aQ (fun h=>?_) (fun h=>?_)|refine bB (fun h=>?_) (fun h=>?_)|refine aF (fun h=>?_) (fun h=>?_)|refine aH (fun h=>?_) (fun h=>?_)|refine FN ?_ ?_ ?_ ?_ rfl ?_|refine aR ?_ ?_|refine bC ?_ ?_|refine bM ?_ ?_|refine IA ?_ ?_ ?_|refine L1 ?_ ?_|refine L2 ?_ ?_|refine L3 ?_ ?_ ?_ ?_|refine L4 ?_ ?_|refine L5 ?_ ?_ ?_ ?_ ?_|refine L6 ?_ ?_ ?_ ?_ ?_|refine AC.p0 (lZ ?_) ?_ (by simp -implicitDefEqProofs only [qU,pure_encZ]; done) ?_ ?_|refine AC.p0 (jK ?_) ?_ (by simp -implicitDefEqProofs only [qU,pure_encZ]; done) ?_ ?_|simp -implicitDefEqProofs only [Tn,qA,bN,bD,bO,aJ,aP,qU,D1,D4,D5,D3,D0,D6,reduceIte,reduceCtorEq,qI,E2,E1,cL,E0,bH,qZ,hck,pC,F4,F5, *]
  all_goals first
    | exact hb8
    | (constructor <;> omega)
    | exact G3 _
    | exact Wk.tup ⟨G3 _,fun h=>h,Wk.nil 1,fun _=>rfl,G3 _,fun h=>h,trivial⟩
    | skip

theorem JX {s:State} {n:Int} (h:Bd s 100000) (hck:bZ s=true) (hn:n<0):cX D8 16 [.agg (bR s),.int .i64 n] (.tup [.agg (bR s),.slv 1 [],.int .i64 50],[],[]):=by
  have hb8:=h.mono (n:=100000000) (by omega)
  have hn0:(n<0)=True:=by simp [hn]
  refine aI bP Fi (by simp [Tn]) fun hw _=>?_
  clear hw h
  repeat' with_reducible first|refine aQ (fun h=>?_) (fun h=>?_)|refine bB (fun h=>?_) (fun h=>?_)|refine aF (fun h=>?_) (fun h=>?_)|refine aH (fun h=>?_) (fun h=>?_)|refine FN ?_ ?_ ?_ ?_ rfl ?_|refine aR ?_ ?_|refine bC ?_ ?_|refine bM ?_ ?_|refine IA ?_ ?_ ?_|refine L1 ?_ ?_|refine L2 ?_ ?_|refine L3 ?_ ?_ ?_ ?_|refine L4 ?_ ?_|refine L5 ?_ ?_ ?_ ?_ ?_|refine L6 ?_ ?_ ?_ ?_ ?_|refine AC.p0 (lZ ?_) ?_ (by simp -implicitDefEqProofs only [qU,pure_encZ]; done) ?_ ?_|refine AC.p0 (jK ?_) ?_ (by simp -implicitDefEqProofs only [qU,pure_encZ]; done) ?_ ?_|simp -implicitDefEqProofs only [Tn,qA,bN,bD,bO,aJ,aP,qU,D1,D4,D5,D3,D0,D6,reduceIte,reduceCtorEq,qI,E2,E1,cL,E0,bH,qZ,hck,pC,F4,F5,hn0, *]
  all_goals first
    | exact hb8
    | (constructor <;> omega)
    | exact G3 _
    | exact Wk.tup ⟨G3 _,fun h=>h,Wk.nil 1,fun _=>rfl,G3 _,fun h=>h,trivial⟩
    | skip

theorem JY {s:State} {n:Int} (h:Bd s 100000) (hck:bZ s=true) (hn:¬ n<0) (hn2:n > 1099511627776 - s.now):cX D8 16 [.agg (bR s),.int .i64 n] (.tup [.agg (bR s),.slv 1 [],.int .i64 50],[],[]):=by
  have hb8:=h.mono (n:=100000000) (by omega)
  have hnw:=Yp hck
  have hws:IntKind.wrap .i64 (1099511627776 - s.now)=1099511627776 - s.now:=bL (by omega) (by omega)
  have hn0:(n<0)=False:=by simp [hn]
  have hn1:(1099511627776 - s.now<n)=True:=by simp; omega
  clear hnw
  refine aI bP Fi (by simp [Tn]) fun hw _=>?_
  clear hw h
  repeat' with_reducible first|refine aQ (fun h=>?_) (fun h=>?_)|refine bB (fun h=>?_) (fun h=>?_)|refine aF (fun h=>?_) (fun h=>?_)|refine aH (fun h=>?_) (fun h=>?_)|refine FN ?_ ?_ ?_ ?_ rfl ?_|refine aR ?_ ?_|refine bC ?_ ?_|refine bM ?_ ?_|refine IA ?_ ?_ ?_|refine L1 ?_ ?_|refine L2 ?_ ?_|refine L3 ?_ ?_ ?_ ?_|refine L4 ?_ ?_|refine L5 ?_ ?_ ?_ ?_ ?_|refine L6 ?_ ?_ ?_ ?_ ?_|refine AC.p0 (lZ ?_) ?_ (by simp -implicitDefEqProofs only [qU,pure_encZ]; done) ?_ ?_|refine AC.p0 (jK ?_) ?_ (by simp -implicitDefEqProofs only [qU,pure_encZ]; done) ?_ ?_|simp -implicitDefEqProofs only [Tn,qA,bN,bD,bO,aJ,aP,qU,D1,D4,D5,D3,D0,D6,reduceIte,reduceCtorEq,qI,E2,E1,cL,E0,bH,qZ,hck,pC,F4,F5,hn0,hn1,hws, *]
  all_goals first
    | exact hb8
    | (constructor <;> omega)
    | exact G3 _
    | exact Wk.tup ⟨G3 _,fun h=>h,Wk.nil 1,fun _=>rfl,G3 _,fun h=>h,trivial⟩
    | skip

theorem Se {st:State} {id:Int} {M:AM} {b:Nat} {κ:Ef→Prop} (hb:Bd st 100000000) (hid:0≤id∧id.toNat<st.threads.length) (hM:jY M (reachM M (fA 1 (jL [.int .i64 id,.ptr 2 0 0]) []))=mT st) (h5:5≤b)
    (hk:κ (.tup [],inlU (mT st) (mR (gC st id)),[2,3])):AC D8 43 [.int .i64 id,.ptr 2 0 0] M b κ:=by
  have hin:∀ s:State,jX [2,3] (dM s (.slm 3 s.threads.length) (.slv 5 (s.log.map cO)))=true:=fun s=>by simp [dM,jX,AV.inN,gH pure_encI,gH pure_encS,gH pure_encE]
  have hT:∀ g,g∈[2,3]→(mU 5 b).fixes g:=fun g hg=>by
    have:g=2∨g=3:=by simpa using hg
    rcases this with rfl | rfl <;> exact ⟨fun _ _=>rfl,fun _=>rfl,rfl⟩
  refine AC.mc 5 (KI (s:=st) hb hid) (by omega) h5 hM rfl (by simp [mT]) ?_ rfl (by simp [mT,mR]) ?_
  · simp only [mT,List.all_cons,List.all_nil,N4,T6,Blk.inN,oM,hin,gH pure_encT]; rfl
  · have e:∀ s:State,(Blk.rows 33 20 [dM s (.slm 3 s.threads.length) (.slv 5 (s.log.map cO))]).tr (mU 5 b)=.rows 33 20 [dM s (.slm 3 s.threads.length) (.slv 5 (s.log.map cO))]:=fun s=>by
      simp only [Blk.tr,trss]; rw [jD hT _ (hin s)]
    have e2:∀ s:State,(Blk.rows 42 11 (s.threads.map bH)).tr (mU 5 b)=.rows 42 11 (s.threads.map bH):=fun s=>by
      simp only [Blk.tr]; rw [eB _ pure_encT]
    have e3:(inlU (mT st) (mR (gC st id))).map (rG 5 b)=inlU (mT st) (mR (gC st id)):=by
      simp only [inlU,mT,mR,N4,T6,List.cons_append,List.nil_append,Pc,Pf,Option.map_some,Option.map_none,e,e2]
    rw [e3]
    exact hk
theorem JU {s:State} {n:Int} (h:Bd s 100000) (hck:bZ s=true) (hn:¬ n<0) (hn2:¬ n > 1099511627776 - s.now):cX D8 16 [.agg (bR s),.int .i64 n] (.tup [.agg (bR (gB (rF s (s.now+n)) (fO s n))),.slv 1 ((fO s n).map aS),.int .i64 0],[],[]):=by
  have hnw:=Yp hck
  have hne:=GU hck
  have hd16:=Nr s
  have hid:=FI s n
  have hws:IntKind.wrap .i64 (1099511627776 - s.now)=1099511627776 - s.now:=bL (by omega) (by omega)
  have hwn:IntKind.wrap .i64 (s.now+n)=s.now+n:=bL (by omega) (by omega)
  have hn0:(n<0)=False:=by simp [hn]
  have hn1:(1099511627776 - s.now<n)=False:=by simp; omega
  have hE:(kE (kI s) (s.now+n)).1=fO s n:=rfl
  have hmem:∀ i,i<(fO s n).length→0≤(fO s n).getD i default∧((fO s n).getD i default).toNat<s.threads.length:=fun i hi=>FJ (iA hi)
  clear hnw hn hn2
  obtain ⟨⟨aW,aV,aN,aX,aG,aO,aA⟩,⟨bT,bV,bU⟩,aB,aD,aC,⟨aZ,aT⟩,⟨bA,aU⟩,aL,aE,aK⟩:=s
  obtain ⟨h1,h2,h3,h4,h5,h6,h7⟩:=h.all
  simp only [] at hne hws hwn hn1 hE hmem h1 h2 h3 h4 h5 h6 h7
  have hw0:cM (E4 (E3 aW aV aN aX aG aO aA) (E8 bT bV bU) aB aD aC (D7 aZ aT) (D7 bA aU) aL aE aK) (-1)=(E4 (E3 aW aV aN aX aG aO aA) (E8 bT bV bU) aB aD aC (D7 aZ aT) (D7 bA aU) aL aE aK):=Kc
  have hb8:=h.mono (n:=100000000) (by omega)
  refine aI bP Fi (by simp [Tn]) fun hw _=>?_
  clear hw
  unfold bR dM
  repeat' with_reducible first|refine aQ (fun h=>?_) (fun h=>?_)|refine bB (fun h=>?_) (fun h=>?_)|refine aF (fun h=>?_) (fun h=>?_)|refine aH (fun h=>?_) (fun h=>?_)|refine FN ?_ ?_ ?_ ?_ rfl ?_|refine aR ?_ ?_|refine bC ?_ ?_|refine bM ?_ ?_|refine IA ?_ ?_ ?_|refine L1 ?_ ?_|refine L2 ?_ ?_|refine L3 ?_ ?_ ?_ ?_|refine L4 ?_ ?_|refine L5 ?_ ?_ ?_ ?_ ?_|refine L6 ?_ ?_ ?_ ?_ ?_|refine N1 (qH ?_ ?_ ?_ ?_ ?_ ?_ ?_ hne) ?_ ?_|refine P0 (iS ?_ ?_ ?_ ?_ ?_ ?_ ?_) ?_ ?_ ?_|refine P0 (OB ?_ ?_ ?_ ?_ ?_ ?_ ?_) ?_ ?_ ?_|refine AC.p0 (HU ?_) ?_ (by simp -implicitDefEqProofs only [qU,pures,AV.pure,bQ bK,Bool.and_true]; done) ?_ ?_|simp -implicitDefEqProofs only [Tn,qA,bN,bD,bO,aJ,aP,qU,D1,D4,D5,D3,D0,D6,reduceIte,reduceCtorEq,qI,E2,E1,cL,E0,bH,lN,dM,dO,O5,bS,cJ,cY,F1,Zr,Zs,Pc,Pf,mT,mR,F4,F5,dI,dJ,hck,hwn,hws,hn0,hn1, *]
  all_goals first
    | refine oN 6 (fun i:Nat=>nl 4 (some (.ptr 4 0 0) :: nl 2 (some (.ptr 2 0 0) :: some (.slv 1 ((fO (E4 (E3 aW aV aN aX aG aO aA) (E8 bT bV bU) aB aD aC (D7 aZ aT) (D7 bA aU) aL aE aK) n).map aS)) :: nl 1 (some (.fn (.func 43) [] [.ptr 2 0 0]) :: nl 34 (some (.slv 1 ((fO (E4 (E3 aW aV aN aX aG aO aA) (E8 bT bV bU) aB aD aC (D7 aZ aT) (D7 bA aU) aL aE aK) n).map aS)) :: some (.int .i64 (fO (E4 (E3 aW aV aN aX aG aO aA) (E8 bT bV bU) aB aD aC (D7 aZ aT) (D7 bA aU) aL aE aK) n).length) :: some (.int .i64 i) :: nl 9 []))))) (fun i=>[(4,.rows 33 20 [[(.int .i64 0),(.int .i64 0),(.int .i64 0),(.int .i64 0),(.int .i64 0),(.int .i64 0),(.bool false),(.int .i64 0),(.int .i64 0),(.int .i64 0),.slnil,.slnil,.slnil,(.int .i64 0),.slnil,(.int .i64 0),.slnil,(.int .i64 0),.slnil,.slnil]]),(3,.rows 42 11 ((gB (rF (E4 (E3 aW aV aN aX aG aO aA) (E8 bT bV bU) aB aD aC (D7 aZ aT) (D7 bA aU) aL aE aK) (aL+n)) ((fO (E4 (E3 aW aV aN aX aG aO aA) (E8 bT bV bU) aB aD aC (D7 aZ aT) (D7 bA aU) aL aE aK) n).take i)).threads.map bH)),(2,.rows 33 20 [dM (gB (rF (E4 (E3 aW aV aN aX aG aO aA) (E8 bT bV bU) aB aD aC (D7 aZ aT) (D7 bA aU) aL aE aK) (aL+n)) ((fO (E4 (E3 aW aV aN aX aG aO aA) (E8 bT bV bU) aB aD aC (D7 aZ aT) (D7 bA aU) aL aE aK) n).take i)) (.slm 3 (gB (rF (E4 (E3 aW aV aN aX aG aO aA) (E8 bT bV bU) aB aD aC (D7 aZ aT) (D7 bA aU) aL aE aK) (aL+n)) ((fO (E4 (E3 aW aV aN aX aG aO aA) (E8 bT bV bU) aB aD aC (D7 aZ aT) (D7 bA aU) aL aE aK) n).take i)).threads.length) (.slv 5 ((gB (rF (E4 (E3 aW aV aN aX aG aO aA) (E8 bT bV bU) aB aD aC (D7 aZ aT) (D7 bA aU) aL aE aK) (aL+n)) ((fO (E4 (E3 aW aV aN aX aG aO aA) (E8 bT bV bU) aB aD aC (D7 aZ aT) (D7 bA aU) aL aE aK) n).take i)).log.map cO))])]) (fun i=>i≤(fO (E4 (E3 aW aV aN aX aG aO aA) (E8 bT bV bU) aB aD aC (D7 aZ aT) (D7 bA aU) aL aE aK) n).length) (fun i=>(fO (E4 (E3 aW aV aN aX aG aO aA) (E8 bT bV bU) aB aD aC (D7 aZ aT) (D7 bA aU) aL aE aK) n).length - i) [] [(97,2),(81,3),(17,4)] 0 (by omega) ?_ ?_ ?_ ?_ ?_ ?_
    | omega
    | skip
  rotate_right
  · intro i hi
    have hbI:Bd (gB (rF (E4 (E3 aW aV aN aX aG aO aA) (E8 bT bV bU) aB aD aC (D7 aZ aT) (D7 bA aU) aL aE aK) (aL+n)) ((fO (E4 (E3 aW aV aN aX aG aO aA) (E8 bT bV bU) aB aD aC (D7 aZ aT) (D7 bA aU) aL aE aK) n).take i)) 100000000:=Gn _ hb8
    have hlI:(gB (rF (E4 (E3 aW aV aN aX aG aO aA) (E8 bT bV bU) aB aD aC (D7 aZ aT) (D7 bA aU) aL aE aK) (aL+n)) ((fO (E4 (E3 aW aV aN aX aG aO aA) (E8 bT bV bU) aB aD aC (D7 aZ aT) (D7 bA aU) aL aE aK) n).take i)).threads.length=aE.length:=Bn _ _
    have hbJ:=hbI.all
    clear hE hd16 hck hwn hws hn0 hn1 hw0
    simp only [dL,dK,all_nil,dI,dJ]
    intros
    rcases Nat.lt_or_eq_of_le hi with hlt | heq
    · have hd:((i:Int)<((fO (E4 (E3 aW aV aN aX aG aO aA) (E8 bT bV bU) aB aD aC (D7 aZ aT) (D7 bA aU) aL aE aK) n).length:Int))=True:=by simp; omega
      have hS:(gB (rF (E4 (E3 aW aV aN aX aG aO aA) (E8 bT bV bU) aB aD aC (D7 aZ aT) (D7 bA aU) aL aE aK) (aL+n)) ((fO (E4 (E3 aW aV aN aX aG aO aA) (E8 bT bV bU) aB aD aC (D7 aZ aT) (D7 bA aU) aL aE aK) n).take (i+1)))=gC (gB (rF (E4 (E3 aW aV aN aX aG aO aA) (E8 bT bV bU) aB aD aC (D7 aZ aT) (D7 bA aU) aL aE aK) (aL+n)) ((fO (E4 (E3 aW aV aN aX aG aO aA) (E8 bT bV bU) aB aD aC (D7 aZ aT) (D7 bA aU) aL aE aK) n).take i)) ((fO (E4 (E3 aW aV aN aX aG aO aA) (E8 bT bV bU) aB aD aC (D7 aZ aT) (D7 bA aU) aL aE aK) n).getD i default):=GX hlt
      have hwi:IntKind.wrap .i64 ((i:Int)+1)=((i+1:Nat):Int):=by rw [bL (by omega) (by omega)]; omega
      have hid2:=hmem i hlt
      clear hmem
      repeat' with_reducible first|refine aQ (fun h=>?_) (fun h=>?_)|refine bB (fun h=>?_) (fun h=>?_)|refine aF (fun h=>?_) (fun h=>?_)|refine aH (fun h=>?_) (fun h=>?_)|refine FN ?_ ?_ ?_ ?_ rfl ?_|refine aR ?_ ?_|refine bC ?_ ?_|refine bM ?_ ?_|refine IA ?_ ?_ ?_|refine L1 ?_ ?_|refine L2 ?_ ?_|refine L3 ?_ ?_ ?_ ?_|refine L4 ?_ ?_|refine L5 ?_ ?_ ?_ ?_ ?_|refine L6 ?_ ?_ ?_ ?_ ?_|refine eK (d:=default) ?_ ?_|refine Se (st:=(gB (rF (E4 (E3 aW aV aN aX aG aO aA) (E8 bT bV bU) aB aD aC (D7 aZ aT) (D7 bA aU) aL aE aK) (aL+n)) ((fO (E4 (E3 aW aV aN aX aG aO aA) (E8 bT bV bU) aB aD aC (D7 aZ aT) (D7 bA aU) aL aE aK) n).take i))) ?_ ?_ ?_ ?_ ?_|refine gV [] [(2,2),(3,3),(4,4)] (i+1) ?_ ?_ ?_ ?_ ?_ ?_|simp -implicitDefEqProofs only [Tn,qA,bN,bD,bO,aJ,aP,qU,D1,D4,D5,D3,D0,D6,reduceIte,reduceCtorEq,qI,E2,E1,cL,E0,bH,lN,dM,dO,O5,bS,cJ,cY,F1,Zr,Zs,Pc,Pf,mT,mR,F4,F5,dI,dJ,aS,qM, *]
      all_goals first
        | omega
        | exact hbI
        | exact ⟨hid2.1,by rw [hlI]; exact hid2.2⟩
        | exact ⟨by omega,by omega⟩
        | skip
    · have hd:((i:Int)<((fO (E4 (E3 aW aV aN aX aG aO aA) (E8 bT bV bU) aB aD aC (D7 aZ aT) (D7 bA aU) aL aE aK) n).length:Int))=False:=by simp; omega
      have hT:(fO (E4 (E3 aW aV aN aX aG aO aA) (E8 bT bV bU) aB aD aC (D7 aZ aT) (D7 bA aU) aL aE aK) n).take i=fO (E4 (E3 aW aV aN aX aG aO aA) (E8 bT bV bU) aB aD aC (D7 aZ aT) (D7 bA aU) aL aE aK) n:=F3 (by omega)
      rw [hT] at *
      clear heq hT hmem
      repeat' with_reducible first|refine aQ (fun h=>?_) (fun h=>?_)|refine bB (fun h=>?_) (fun h=>?_)|refine aF (fun h=>?_) (fun h=>?_)|refine aH (fun h=>?_) (fun h=>?_)|refine FN ?_ ?_ ?_ ?_ rfl ?_|refine aR ?_ ?_|refine bC ?_ ?_|refine bM ?_ ?_|refine IA ?_ ?_ ?_|refine L1 ?_ ?_|refine L2 ?_ ?_|refine L3 ?_ ?_ ?_ ?_|refine L4 ?_ ?_|refine L5 ?_ ?_ ?_ ?_ ?_|refine L6 ?_ ?_ ?_ ?_ ?_|simp -implicitDefEqProofs only [Tn,qA,bN,bD,bO,aJ,aP,qU,D1,D4,D5,D3,D0,D6,reduceIte,reduceCtorEq,qI,E2,E1,cL,E0,bH,lN,dM,dO,O5,bS,cJ,cY,F1,Zr,Zs,Pc,Pf,mT,mR,F4,F5,dI,dJ, *]
      all_goals first
        | exact G3 _
        | (rw [F3 (by simp)]; exact G3 _)
        | skip
  all_goals first
    | omega
    | (simp only [R3,gB,Z2,rF,dM]; (simp -implicitDefEqProofs only [qA,bN,bD,bO,aJ,aP,qU,D1,D4,D5,D3,D0,D6,reduceIte,reduceCtorEq,qI,E2,E1,qZ,dI,dJ]; first | done | (simp; done)))
    | (simp -implicitDefEqProofs only [qA,bN,bD,bO,aJ,aP,qU,D1,D4,D5,D3,D0,D6,reduceIte,reduceCtorEq,qI,E2,E1,qZ,dI,dJ]; first | done | (simp; done))
    | (simp only [R3,gB,Z2,rF,dM]; (simp -implicitDefEqProofs only [qA,bN,bD,bO,aJ,aP,qU,D1,D4,D5,D3,D0,D6,reduceIte,reduceCtorEq,qI,E2,E1,qZ,dI,dJ]; trace_state))
    | skip

end Go.Sak
