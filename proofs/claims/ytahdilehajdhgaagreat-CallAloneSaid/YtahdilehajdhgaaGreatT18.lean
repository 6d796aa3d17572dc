/- Part T18 of the proofs about the program: K15, K16, K17. Conditions: none. -/
import Derived.Test.YtahdilehajdhgaaGreatT16
open Go.Sak.ACK renaming of→F7
open Go.Sak.ACV renaming of→F2
open Go.Sak.Config renaming mk→E3
open Go.Sak.Event renaming mk→D7
open Int renaming toNat_natCast→E0
open List renaming reduceReplicate→D1
open Nat renaming reduceAdd→D4,reduceBEq→E1,reduceEqDiff→D0,reduceLT→E2,reduceLeDiff→D3,reduceMul→D6,reduceSub→D5
open Go.Sak.State renaming mk→E4
open Go.Proofs.Tryz renaming prog→D8
open Go.Sak.Wk renaming refl→G3
open Go.Sak.Word renaming mk→E8
namespace Go.Sak
open Go Go.RowKit Go.Proofs
set_option linter.unusedVariables false
set_option linter.unusedSimpArgs false
set_option maxRecDepth 10000
set_option maxHeartbeats 8000000
def Kp:AFn:=⟨36,(.seq (.reg [o1 1 (.box 33 0),o1 2 (.alloc 33 [(.int .i64 0),(.int .i64 0),(.int .i64 0),(.int .i64 0),(.int .i64 0),(.int .i64 0),(.bool false),(.int .i64 0),(.int .i64 0),(.int .i64 0),.slnil,.slnil,.slnil,(.int .i64 0),.slnil,(.int .i64 0),.slnil,(.int .i64 0),.slnil,.slnil])]) (.seq (.regT [o1 3 (.faddr 10 1),o1 4 (.ld 1 false 3),o1 5 (.call 128 [4]),o1 6 (.faddr 11 1),o1 7 (.ld 1 false 6),o1 8 (.call 129 [7]),o1 9 (.faddr 12 1),o1 10 (.ld 1 false 9),o1 11 (.call 129 [10]),o1 12 (.faddr 10 1),o2 (.st 1 12 5),o1 13 (.faddr 11 1),o2 (.st 1 13 8),o1 14 (.faddr 12 1),o2 (.st 1 14 11)] [(0,3),(1,3),(2,3),(0,4),(1,4),(2,4),(0,6),(1,6),(2,6),(3,6),(4,6),(5,6),(0,7),(1,7),(2,7),(3,7),(4,7),(5,7),(5,9),(8,9)]) (.seq (.regT [o1 15 (.faddr 13 1),o1 16 (.faddr 1 15),o1 17 (.ld 1 false 16),o1 18 (.call 129 [17]),o1 19 (.faddr 15 1),o1 20 (.faddr 1 19),o1 21 (.ld 1 false 20),o1 22 (.call 129 [21]),o1 23 (.faddr 13 1),o1 24 (.faddr 1 23),o2 (.st 1 24 18),o1 25 (.faddr 15 1),o1 26 (.faddr 1 25),o2 (.st 1 26 22)] [(0,4),(1,4),(2,4),(3,4),(0,5),(1,5),(2,5),(3,5),(0,6),(1,6),(2,6),(3,6),(7,8),(7,9)]) (.seq (.regT [o1 27 (.faddr 18 1),o1 28 (.ld 1 false 27),o1 29 (.call 130 [28]),o1 30 (.faddr 19 1),o1 31 (.ld 1 false 30),o1 32 (.call 131 [31]),o1 33 (.faddr 18 1),o2 (.st 1 33 29),o1 34 (.faddr 19 1),o2 (.st 1 34 32)] [(0,3),(1,3),(2,3),(0,4),(1,4),(2,4),(5,6)]) (.seq (.reg [o1 35 (.ld 20 true 1),o2 (.st 20 2 35)]) .ret))))),[(2,some (20,true))]⟩
theorem Tl:xf D8 79=some Kp:=by kernel_rfl
theorem zX:Kp.code.lf=true:=rfl
def Qn:AFn:=⟨30,(.seq (.reg [o1 3 (.box 33 0),o1 6 (.alloc 33 [(.int .i64 0),(.int .i64 0),(.int .i64 0),(.int .i64 0),(.int .i64 0),(.int .i64 0),(.bool false),(.int .i64 0),(.int .i64 0),(.int .i64 0),.slnil,.slnil,.slnil,(.int .i64 0),.slnil,(.int .i64 0),.slnil,(.int .i64 0),.slnil,.slnil])]) (.seq (.reg [o1 8 (.ld 20 true 3),o1 9 (.call 79 [8]),o1 7 (.alloc 33 [(.int .i64 0),(.int .i64 0),(.int .i64 0),(.int .i64 0),(.int .i64 0),(.int .i64 0),(.bool false),(.int .i64 0),(.int .i64 0),(.int .i64 0),.slnil,.slnil,.slnil,(.int .i64 0),.slnil,(.int .i64 0),.slnil,(.int .i64 0),.slnil,.slnil]),o2 (.st 20 7 9)]) (.seq (.seq (.reg [o1 10 (.ld 20 true 3),o1 11 (.call 18 [10]),o1 12 (.mv 11),o3 13 (.mv 1) 12,o3 14 (.bin .geq 13 (ci 0)) 12,o1 15 (.pick 12 14 (.const (.bool false))),o1 16 (.mv 15),o3 17 (.mv 1) 16,o3 18 (.faddr 18 3) 16,o3 19 (.ld 1 false 18) 16,o3 20 (.len 19) 16,o3 21 (.bin .lss 17 20) 16,o1 22 (.pick 16 21 (.const (.bool false)))]) (.cond 22 (.reg [o1 23 (.mv 2),o1 24 (.faddr 18 7),o1 25 (.ld 1 false 24),o1 26 (.mv 1),o1 27 (.iaddr 11 25 26),o1 28 (.callv 23 [27])]) .skip)) (.seq (.reg [o1 29 (.ld 20 true 7),o2 (.st 20 6 29)]) .ret)))),[(6,some (20,true))]⟩
theorem AG:xf D8 80=some Qn:=by kernel_rfl
theorem Dl:Qn.code.lf=true:=rfl
def JI:AFn:=⟨8,(.reg [o1 2 (.mv 0),o1 3 (.mv 0),o1 4 (.nilchk 3),o1 5 (.ld 11 true 4),o1 6 (.call 45 [5]),o1 7 (.nilchk 2),o2 (.st 11 7 6)]),[]⟩
theorem UE:xf D8 84=some JI:=by kernel_rfl
theorem FU:JI.code.lf=true:=rfl
def To:AFn:=⟨8,(.seq (.reg [o1 2 (.box 33 0),o1 4 (.alloc 33 [(.int .i64 0),(.int .i64 0),(.int .i64 0),(.int .i64 0),(.int .i64 0),(.int .i64 0),(.bool false),(.int .i64 0),(.int .i64 0),(.int .i64 0),.slnil,.slnil,.slnil,(.int .i64 0),.slnil,(.int .i64 0),.slnil,(.int .i64 0),.slnil,.slnil])]) (.seq (.reg [o1 5 (.ld 20 true 2),o1 6 (.mv 1),o1 7 (.call 80 [5,6,(.func 84)]),o2 (.st 20 4 7)]) .ret)),[(4,some (20,true))]⟩
theorem NE:xf D8 41=some To:=by kernel_rfl
theorem Ni {aW aV:Int} {aN aX:Int} {aG aO:Int} {aA:Bool} {bT bV bU:Int} {aB:List Slot} {aD aC:List Int} {aZ:Int} {aT:List Int} {bA:Int} {aU:List Int} {aL:Int} {aE:List Thread} {aK:List Entry} {id:Int} (h1:aB.length≤100000000) (h2:aD.length≤100000000) (h3:aC.length≤100000000) (h4:aT.length≤100000000) (h5:aU.length≤100000000) (h6:aE.length≤100000000) (h7:aK.length≤100000000):cX D8 41 [.agg [.int .i64 aW,.int .i64 aV,.int .i64 aN,.int .i64 aX,.int .i64 aG,.int .i64 aO,.bool aA,.int .i64 bT,.int .i64 bV,.int .i64 bU,.slv 2 (aB.map cU),.slv 1 (aD.map aS),.slv 1 (aC.map aS),.int .i64 aZ,.slv 1 (aT.map aS),.int .i64 bA,.slv 1 (aU.map aS),.int .i64 aL,.slv 11 (aE.map bH),.slv 5 (aK.map cO)],.int .i64 id] (.agg (bR (cM (E4 (E3 aW aV aN aX aG aO aA) (E8 bT bV bU) aB aD aC (D7 aZ aT) (D7 bA aU) aL aE aK) id)),[],[]):=by
  by_cases hI:cN (E4 (E3 aW aV aN aX aG aO aA) (E8 bT bV bU) aB aD aC (D7 aZ aT) (D7 bA aU) aL aE aK) id=true
  · rw [show cM (E4 (E3 aW aV aN aX aG aO aA) (E8 bT bV bU) aB aD aC (D7 aZ aT) (D7 bA aU) aL aE aK) id=dD (E4 (E3 aW aV aN aX aG aO aA) (E8 bT bV bU) aB aD aC (D7 aZ aT) (D7 bA aU) aL aE aK) id (oR (me (E4 (E3 aW aV aN aX aG aO aA) (E8 bT bV bU) aB aD aC (D7 aZ aT) (D7 bA aU) aL aE aK) id)) from if_pos hI]
    have hI':=hI
    simp only [cN,Bool.and_eq_true,decide_eq_true_eq] at hI'
    obtain ⟨⟨hchk,hge⟩,hlt⟩:=hI'
    have hne:aE≠[]:=by intro h; subst h; simp at hlt; omega
    clear hI
    refine aI bP NE (by simp [To]) fun hw _=>?_
    clear hw
    repeat' with_reducible first|refine aQ (fun h=>?_) (fun h=>?_)|refine bB (fun h=>?_) (fun h=>?_)|refine aF (fun h=>?_) (fun h=>?_)|refine aH (fun h=>?_) (fun h=>?_)|refine FN ?_ ?_ ?_ ?_ rfl ?_|refine aR ?_ ?_|refine bC ?_ ?_|refine bM ?_ ?_|refine I0 bP AG Dl ?_ ?_ ?_ ?_ ?_|refine I0 bP Tl zX ?_ ?_ ?_ ?_ ?_|refine I0 bP UE FU ?_ ?_ ?_ ?_ ?_|refine IA ?_ ?_ ?_|refine L1 ?_ ?_|refine L2 ?_ ?_|refine L3 ?_ ?_ ?_ ?_|refine L4 ?_ ?_|refine L5 ?_ ?_ ?_ ?_ ?_|refine L6 ?_ ?_ ?_ ?_ ?_|refine P0 (iS ?_ ?_ ?_ ?_ ?_ ?_ ?_) ?_ ?_ ?_|refine N1 (nG hne ?_) ?_ ?_|refine P0 (dR ?_) ?_ ?_ ?_|refine F2 (dR ?_) ?_ ?_ ?_|refine F7 (dR ?_) ?_ ?_|refine P0 (eV ?_) ?_ ?_ ?_|refine F2 (eV ?_) ?_ ?_ ?_|refine F7 (eV ?_) ?_ ?_|refine P0 (gW ?_) ?_ ?_ ?_|refine F2 (gW ?_) ?_ ?_ ?_|refine F7 (gW ?_) ?_ ?_|refine P0 (sL) ?_ ?_ ?_|refine F2 (sL) ?_ ?_ ?_|refine F7 (sL) ?_ ?_|simp -implicitDefEqProofs only [To,qA,bN,bD,bO,aJ,aP,qU,D1,D4,D5,D3,D0,D6,reduceIte,reduceCtorEq,qI,E2,E1,Qn,Kp,JI,cL,E0,bH, *]
    all_goals first
      | omega
      | (constructor <;> omega)
      | exact G3 _
      | skip
  · rw [show cM (E4 (E3 aW aV aN aX aG aO aA) (E8 bT bV bU) aB aD aC (D7 aZ aT) (D7 bA aU) aL aE aK) id=(E4 (E3 aW aV aN aX aG aO aA) (E8 bT bV bU) aB aD aC (D7 aZ aT) (D7 bA aU) aL aE aK) from if_neg hI]
    have hI':bZ (E4 (E3 aW aV aN aX aG aO aA) (E8 bT bV bU) aB aD aC (D7 aZ aT) (D7 bA aU) aL aE aK)=false∨¬ id≥0∨¬ id<aE.length:=by
      simp only [cN,Bool.and_eq_true,decide_eq_true_eq] at hI
      by_cases h1:bZ (E4 (E3 aW aV aN aX aG aO aA) (E8 bT bV bU) aB aD aC (D7 aZ aT) (D7 bA aU) aL aE aK)=true
      · by_cases h2:id≥0
        · exact .inr (.inr fun h3=>hI ⟨⟨h1,h2⟩,h3⟩)
        · exact .inr (.inl h2)
      · exact .inl (by simpa using h1)
    clear hI
    rcases hI' with hI' | hI' | hI'
    all_goals refine aI bP NE (by simp [To]) fun hw _=>?_
    all_goals clear hw
    all_goals
      repeat' with_reducible first|refine aQ (fun h=>?_) (fun h=>?_)|refine bB (fun h=>?_) (fun h=>?_)|refine aF (fun h=>?_) (fun h=>?_)|refine aH (fun h=>?_) (fun h=>?_)|refine FN ?_ ?_ ?_ ?_ rfl ?_|refine aR ?_ ?_|refine bC ?_ ?_|refine bM ?_ ?_|refine I0 bP AG Dl ?_ ?_ ?_ ?_ ?_|refine I0 bP Tl zX ?_ ?_ ?_ ?_ ?_|refine I0 bP UE FU ?_ ?_ ?_ ?_ ?_|refine IA ?_ ?_ ?_|refine L1 ?_ ?_|refine L2 ?_ ?_|refine L3 ?_ ?_ ?_ ?_|refine L4 ?_ ?_|refine L5 ?_ ?_ ?_ ?_ ?_|refine L6 ?_ ?_ ?_ ?_ ?_|refine P0 (iS ?_ ?_ ?_ ?_ ?_ ?_ ?_) ?_ ?_ ?_|refine P0 (dR ?_) ?_ ?_ ?_|refine F2 (dR ?_) ?_ ?_ ?_|refine F7 (dR ?_) ?_ ?_|refine P0 (eV ?_) ?_ ?_ ?_|refine F2 (eV ?_) ?_ ?_ ?_|refine F7 (eV ?_) ?_ ?_|refine P0 (gW ?_) ?_ ?_ ?_|refine F2 (gW ?_) ?_ ?_ ?_|refine F7 (gW ?_) ?_ ?_|refine P0 (pY ?_) ?_ ?_ ?_|refine F2 (pY ?_) ?_ ?_ ?_|refine F7 (pY ?_) ?_ ?_|simp -implicitDefEqProofs only [To,qA,bN,bD,bO,aJ,aP,qU,D1,D4,D5,D3,D0,D6,reduceIte,reduceCtorEq,qI,E2,E1,Qn,Kp,JI,cL,E0,bH, *]
    all_goals first
      | omega
      | exact G3 _
      | skip

section
variable {P:Program} {m:AM} {b:Nat}
theorem Gl {v:AV} {e:Ef} {t l:Nat} (h:fA 1 v.nms []=[t,l]) (h1:stOk 1 16 [l] [(t,1)] m=true) (hz:fS m [l]=true) (hw:v.tr (stT 1 16 [l] [(t,1)] m)=e.1) (hm:stM 1 16 [l] [(t,1)] (stT 1 16 [l] [(t,1)] m) m=AM.upd [] e.2.1):gM 1 [] e v m b :=
  wN [l] [(t,1)] h1 hz hw (by rw [hm])
theorem Ww {v:AV} {e:Ef} {t:Nat} (h:fA 1 v.nms []=[t]) (h1:stOk 1 16 [] [(t,1)] m=true) (hw:v.tr (stT 1 16 [] [(t,1)] m)=e.1) (hm:stM 1 16 [] [(t,1)] (stT 1 16 [] [(t,1)] m) m=AM.upd [] e.2.1):gM 1 [] e v m b :=
  wN [] [(t,1)] h1 rfl hw (by rw [hm])
theorem Zy {x y:AV} (h:Wk x y) (h1:x.one=true→y.one=true) {c0 c1 c2 c3 c4 c5 c6 c7 c8 c9 c10 c11 c12 c13 c14 c15 c16 c17 c18:AV}:Wk (.agg [c0,c1,c2,c3,c4,c5,c6,c7,c8,c9,c10,c11,c12,c13,c14,c15,c16,c17,c18,x]) (.agg [c0,c1,c2,c3,c4,c5,c6,c7,c8,c9,c10,c11,c12,c13,c14,c15,c16,c17,c18,y]):=by
  refine Wk.agg ?_
  simp only [Wks]
  exact ⟨G3 _,id,G3 _,id,G3 _,id,G3 _,id,G3 _,id,G3 _,id,G3 _,id,G3 _,id,G3 _,id,G3 _,id,G3 _,id,G3 _,id,G3 _,id,G3 _,id,G3 _,id,G3 _,id,G3 _,id,G3 _,id,G3 _,id,h,h1,trivial⟩
theorem We {f:FuncId} {x y:AV} {xs:List AV} {e:Ef} (hw:Wk x y) (h:cX P f (y :: xs) e):cX P f (x :: xs) e:=by
  refine ⟨h.1,fun c hc hm hU vs hvs=>h.2 c hc hm hU vs ⟨by simpa using hvs.1,fun i z hi=>?_⟩⟩
  cases i with
  | zero=>simp at hi; subst hi; exact hw _ _ (hvs.2 0 _ rfl)
  | succ i=>exact hvs.2 (i+1) z (by simpa using hi)
theorem Gb {f:FuncId} {xs:List AV} {e:Ef} {c0 c1 c2 c3 c4 c5 c6 c7 c8 c9 c10 c11 c12 c13 c14 c15 c16 c17 c18:AV} (h:cX P f (.agg [c0,c1,c2,c3,c4,c5,c6,c7,c8,c9,c10,c11,c12,c13,c14,c15,c16,c17,c18,.slv 5 (([]:List Entry).map cO)] :: xs) e):cX P f (.agg [c0,c1,c2,c3,c4,c5,c6,c7,c8,c9,c10,c11,c12,c13,c14,c15,c16,c17,c18,.slnil] :: xs) e:=We (Zy (Wk.nil 5) id) h
theorem Gc {f:FuncId} {xs:List AV} {e:Ef} {c0 c1 c2 c3 c4 c5 c6 c7 c8 c9 c10 c11 c12 c13 c14 c15 c16 c17 c18:AV} (h:cX P f (.agg [c0,c1,c2,c3,c4,c5,c6,c7,c8,c9,c10,c11,c12,c13,c14,c15,c16,c17,c18,.slv 5 (([]:List Entry).map cO)] :: xs) e):cX P f (.agg [c0,c1,c2,c3,c4,c5,c6,c7,c8,c9,c10,c11,c12,c13,c14,c15,c16,c17,c18,.sle 5] :: xs) e:=We (Zy (Wk.sle 5) id) h
theorem Wc {f:FuncId} {xs:List AV} {e:Ef} {c0 c1 c2 c3 c4 c5 c6 c7 c8 c9 c10 c11 c12 c13 c14 c15 c16 c17 c18:AV} (h1:cX P f (.agg [c0,c1,c2,c3,c4,c5,c6,c7,c8,c9,c10,c11,c12,c13,c14,c15,c16,c17,c18,.slnil] :: xs) e) (h2:cX P f (.agg [c0,c1,c2,c3,c4,c5,c6,c7,c8,c9,c10,c11,c12,c13,c14,c15,c16,c17,c18,.sle 5] :: xs) e):cX P f (.agg [c0,c1,c2,c3,c4,c5,c6,c7,c8,c9,c10,c11,c12,c13,c14,c15,c16,c17,c18,.slv 5 (([]:List Entry).map cO)] :: xs) e :=
  Wd (pre:=[c0,c1,c2,c3,c4,c5,c6,c7,c8,c9,c10,c11,c12,c13,c14,c15,c16,c17,c18]) (post:=[]) h1 h2
end
theorem gF {aW aV:Int} {aN aX:Int} {aG aO:Int} {aA:Bool} {bT bV bU:Int} {aB:List Slot} {aD aC:List Int} {aZ:Int} {aT:List Int} {bA:Int} {aU:List Int} {aL:Int} {aE:List Thread} {aK:List Entry} (h1:aB.length≤100000000) (h2:aD.length≤100000000) (h3:aC.length≤100000000) (h4:aT.length≤100000000) (h5:aU.length≤100000000) (h6:aE.length≤100000000) (h7:aK.length≤100000000) (hne:aE≠[]):cX D8 41 [.agg [.int .i64 aW,.int .i64 aV,.int .i64 aN,.int .i64 aX,.int .i64 aG,.int .i64 aO,.bool aA,.int .i64 bT,.int .i64 bV,.int .i64 bU,.slv 2 (aB.map cU),.slv 1 (aD.map aS),.slv 1 (aC.map aS),.int .i64 aZ,.slv 1 (aT.map aS),.int .i64 bA,.slv 1 (aU.map aS),.int .i64 aL,.slv 11 (aE.map bH),.slv 5 (aK.map cO)],.int .i64 (-1)] (.agg (dM (E4 (E3 aW aV aN aX aG aO aA) (E8 bT bV bU) aB aD aC (D7 aZ aT) (D7 bA aU) aL aE aK) (.slm 1 aE.length) (.slv 5 (aK.map cO))),[(1,some (.rows 42 11 (aE.map bH)))],[]):=by
  have hm1:decide ((-1:Int)≥0)=false:=by decide
  refine aI bP NE (by simp [To]) fun hw _=>?_
  clear hw
  repeat' with_reducible first|refine aQ (fun h=>?_) (fun h=>?_)|refine bB (fun h=>?_) (fun h=>?_)|refine aF (fun h=>?_) (fun h=>?_)|refine aH (fun h=>?_) (fun h=>?_)|refine Ww (by simp -implicitDefEqProofs only [qA,bN,bD,bO,aJ,aP,qU,D1,D4,D5,D3,D0,D6,reduceIte,reduceCtorEq,qI,E2,E1, *]; exact rfl) ?_ ?_ ?_|refine aR ?_ ?_|refine bC ?_ ?_|refine bM ?_ ?_|refine I0 bP AG Dl ?_ ?_ ?_ ?_ ?_|refine I0 bP Tl zX ?_ ?_ ?_ ?_ ?_|refine IA ?_ ?_ ?_|refine L1 ?_ ?_|refine L2 ?_ ?_|refine L3 ?_ ?_ ?_ ?_|refine L4 ?_ ?_|refine L5 ?_ ?_ ?_ ?_ ?_|refine L6 ?_ ?_ ?_ ?_ ?_|refine P0 (iS ?_ ?_ ?_ ?_ ?_ ?_ ?_) ?_ ?_ ?_|refine N1 (nG hne ?_) ?_ ?_|refine P0 (dR ?_) ?_ ?_ ?_|refine F2 (dR ?_) ?_ ?_ ?_|refine F7 (dR ?_) ?_ ?_|refine P0 (eV ?_) ?_ ?_ ?_|refine F2 (eV ?_) ?_ ?_ ?_|refine F7 (eV ?_) ?_ ?_|refine P0 (gW ?_) ?_ ?_ ?_|refine F2 (gW ?_) ?_ ?_ ?_|refine F7 (gW ?_) ?_ ?_|simp -implicitDefEqProofs only [To,qA,bN,bD,bO,aJ,aP,qU,D1,D4,D5,D3,D0,D6,reduceIte,reduceCtorEq,qI,E2,E1,Qn,Kp,cL,E0,bH,Int.reduceLE,hm1, *]
  all_goals first
    | omega
    | rfl
    | skip

set_option maxHeartbeats 8000000
def Km:AFn:=⟨29,(.seq (.regT [o1 7 (.ld 1 false 1),o1 8 (.ld 1 false 2),o1 9 (.ld 1 false 3),o1 10 (.mv 0),o1 11 (.nilchk 10),o1 12 (.faddr 2 11),o1 13 (.ld 1 false 12),o1 14 (.ld 1 false 4),o1 15 (.ld 1 false 5),o1 16 (.build [(.int .i64 0),(.int .i64 0),(.int .i64 0),(.int .i64 0),(.int .i64 0)] [(0,1,8),(1,1,9),(2,1,13),(3,1,14),(4,1,15)]),o1 17 (.bslice 109 5 1 [16]),o1 18 (.app 109 5 40 7 17),o2 (.st 1 1 18)] [(0,1),(0,2),(1,2),(0,4),(1,4),(2,4),(0,5),(1,5),(2,5),(0,6),(1,6),(2,6),(0,7),(1,7),(2,7),(4,7),(5,7),(6,7),(0,8),(1,8),(2,8),(4,8),(5,8),(6,8),(7,8),(0,10)]) (.seq (.reg [o1 19 (.ld 1 false 3),o1 20 (.bin .neq 19 (ci 9))]) (.cond 20 (.regT [o1 21 (.mv 0),o1 22 (.mv 0),o1 23 (.ld 1 false 4),o1 24 (.ld 1 false 5),o1 25 (.nilchk 21),o1 26 (.faddr 9 25),o2 (.st 1 26 23),o1 27 (.nilchk 22),o1 28 (.faddr 10 27),o2 (.st 1 28 24)] [(2,3),(3,4),(3,5),(3,6)]) .skip))),[]⟩
theorem AF:xf D8 289=some Km:=by kernel_rfl
theorem Ob:Km.code.lf=true:=rfl
def Dg:AFn:=⟨23,(.seq (.reg [o1 5 (.box 33 0),o1 6 (.box 3 1),o1 7 (.box 3 2),o1 8 (.box 3 3),o1 9 (.box 3 4),o1 10 (.alloc 33 [(.int .i64 0),(.int .i64 0),(.int .i64 0),(.int .i64 0),(.int .i64 0),(.int .i64 0),(.bool false),(.int .i64 0),(.int .i64 0),(.int .i64 0),.slnil,.slnil,.slnil,(.int .i64 0),.slnil,(.int .i64 0),.slnil,(.int .i64 0),.slnil,.slnil])]) (.seq (.reg [o1 11 (.alloc 31 [.slnil])]) (.seq (.reg [o1 13 (.ld 20 true 5),o1 14 (.ld 1 false 6),o1 15 (.mkfn (.func 289) [] [11,6,7,8,9]),o1 16 (.call 80 [13,14,15]),o1 12 (.alloc 33 [(.int .i64 0),(.int .i64 0),(.int .i64 0),(.int .i64 0),(.int .i64 0),(.int .i64 0),(.bool false),(.int .i64 0),(.int .i64 0),(.int .i64 0),.slnil,.slnil,.slnil,(.int .i64 0),.slnil,(.int .i64 0),.slnil,(.int .i64 0),.slnil,.slnil]),o2 (.st 20 12 16)]) (.seq (.reg [o1 17 (.faddr 19 12),o1 18 (.ld 1 false 17),o1 19 (.ld 1 false 11),o1 20 (.app 109 5 40 18 19),o1 21 (.faddr 19 12),o2 (.st 1 21 20)]) (.seq (.reg [o1 22 (.ld 20 true 12),o2 (.st 20 10 22)]) .ret))))),[(10,some (20,true))]⟩
theorem AE:xf D8 279=some Dg:=by kernel_rfl
theorem tC {α:Type} {l:List α} {i:Nat} {d:α} (h:i<l.length):l.set i (l.getD i d)=l:=by
  rw [List.getD_eq_getElem?_getD,List.getElem?_eq_getElem h]
  simp
theorem Al (l:List Entry) (a b c d e:Int):l.map cO ++ [[.int .i64 a,.int .i64 b,.int .i64 c,.int .i64 d,.int .i64 e]]=(l ++ [Entry.mk a b c d e]).map cO:=by simp [cO]
theorem uA {α β:Type} (f:α→β) (l:List α) (x:α):((l ++ [x]).map f).take (l.length+1)=(l ++ [x]).map f:=List.take_of_length_le (by simp)
theorem Vo {aW aV:Int} {aN aX:Int} {aG aO:Int} {aA:Bool} {bT bV bU:Int} {aB:List Slot} {aD aC:List Int} {aZ:Int} {aT:List Int} {bA:Int} {aU:List Int} {aL:Int} {aE:List Thread} {aK:List Entry} {id kind res got:Int} (h1:aB.length≤100000000) (h2:aD.length≤100000000) (h3:aC.length≤100000000) (h4:aT.length≤100000000) (h5:aU.length≤100000000) (h6:aE.length≤100000000) (h7:aK.length≤100000000) (hne:aE≠[]) (hchk:bZ (E4 (E3 aW aV aN aX aG aO aA) (E8 bT bV bU) aB aD aC (D7 aZ aT) (D7 bA aU) aL aE aK)=true) (hge:id≥0) (hlt:id<aE.length) (hk:kind=9) (hnl:aK≠[]):
    cX D8 279 [.agg [.int .i64 aW,.int .i64 aV,.int .i64 aN,.int .i64 aX,.int .i64 aG,.int .i64 aO,.bool aA,.int .i64 bT,.int .i64 bV,.int .i64 bU,.slv 2 (aB.map cU),.slv 1 (aD.map aS),.slv 1 (aC.map aS),.int .i64 aZ,.slv 1 (aT.map aS),.int .i64 bA,.slv 1 (aU.map aS),.int .i64 aL,.slv 11 (aE.map bH),.slv 5 (aK.map cO)],.int .i64 id,.int .i64 kind,.int .i64 res,.int .i64 got] (.agg (dM (E4 (E3 aW aV aN aX aG aO aA) (E8 bT bV bU) aB aD aC (D7 aZ aT) (D7 bA aU) aL aE aK) (.slm 1 aE.length) (.slv 5 ((aK ++ [(⟨id,kind,(me (E4 (E3 aW aV aN aX aG aO aA) (E8 bT bV bU) aB aD aC (D7 aZ aT) (D7 bA aU) aL aE aK) id).val,res,got⟩:Entry)]).map cO))),[(1,some (.rows 42 11 (aE.map bH)))],[]):=by
  have hid:id.toNat<aE.length:=by omega
  have hkb:decide (kind=9)=true:=by simp [hk]
  refine aI bP AE (by simp [Dg]) fun hw _=>?_
  clear hw
  repeat' with_reducible first|refine aQ (fun h=>?_) (fun h=>?_)|refine bB (fun h=>?_) (fun h=>?_)|refine aF (fun h=>?_) (fun h=>?_)|refine aH (fun h=>?_) (fun h=>?_)|refine Gl (by simp -implicitDefEqProofs only [qA,bN,bD,bO,aJ,aP,qU,D1,D4,D5,D3,D0,D6,reduceIte,reduceCtorEq,qI,E2,E1, *]; first|exact rfl|exact ⟨rfl,rfl⟩) ?_ ?_ ?_ ?_|refine aR ?_ ?_|refine bC ?_ ?_|refine bM ?_ ?_|refine I0 bP AG Dl ?_ ?_ ?_ ?_ ?_|refine I0 bP Tl zX ?_ ?_ ?_ ?_ ?_|refine I0 bP AF Ob ?_ ?_ ?_ ?_ ?_|refine IA ?_ ?_ ?_|refine L1 ?_ ?_|refine L2 ?_ ?_|refine L3 ?_ ?_ ?_ ?_|refine L4 ?_ ?_|refine L5 ?_ ?_ ?_ ?_ ?_|refine L6 ?_ ?_ ?_ ?_ ?_|refine P0 (iS ?_ ?_ ?_ ?_ ?_ ?_ ?_) ?_ ?_ ?_|refine P0 (Gb (iS (aK:=[]) ?_ ?_ ?_ ?_ ?_ ?_ ?_)) ?_ ?_ ?_|refine P0 (Gc (iS (aK:=[]) ?_ ?_ ?_ ?_ ?_ ?_ ?_)) ?_ ?_ ?_|refine N1 (nG hne ?_) ?_ ?_|refine jJ (eL _ _ _ _ _ _ (by simp -implicitDefEqProofs only [m_get,D0,reduceIte,if_true,if_false]; first|done|exact rfl) ?_) ?_ ?_ ?_ ?_|refine eM (eL _ _ _ _ _ _ (by simp -implicitDefEqProofs only [m_get,D0,reduceIte,if_true,if_false]; first|done|exact rfl) ?_) (by simp -implicitDefEqProofs only [m_get,D0,reduceIte,if_true,if_false]; first|done|exact rfl) ?_ ?_ ?_ ?_|refine N1 (Nf hnl ?_) ?_ ?_|refine P0 (dR ?_) ?_ ?_ ?_|refine F2 (dR ?_) ?_ ?_ ?_|refine F7 (dR ?_) ?_ ?_|refine P0 (eV ?_) ?_ ?_ ?_|refine F2 (eV ?_) ?_ ?_ ?_|refine F7 (eV ?_) ?_ ?_|simp -implicitDefEqProofs only [Dg,qA,bN,bD,bO,aJ,aP,qU,D1,D4,D5,D3,D0,D6,reduceIte,reduceCtorEq,qI,E2,E1,Qn,Kp,Km,cL,E0,bH,hchk,hge,hlt,hk,bY,set_set,bG,hkb,Al,uA, *]
  all_goals first
    | omega
    | (simp; done)
    | (simp at *; omega)
    | (constructor <;> omega)
    | rfl
    | (simp [tC, *]; rfl)
    | skip

theorem Vq {aW aV:Int} {aN aX:Int} {aG aO:Int} {aA:Bool} {bT bV bU:Int} {aB:List Slot} {aD aC:List Int} {aZ:Int} {aT:List Int} {bA:Int} {aU:List Int} {aL:Int} {aE:List Thread}  {id kind res got:Int} (h1:aB.length≤100000000) (h2:aD.length≤100000000) (h3:aC.length≤100000000) (h4:aT.length≤100000000) (h5:aU.length≤100000000) (h6:aE.length≤100000000)  (hne:aE≠[]) (hchk:bZ (E4 (E3 aW aV aN aX aG aO aA) (E8 bT bV bU) aB aD aC (D7 aZ aT) (D7 bA aU) aL aE [])=true) (hge:id≥0) (hlt:id<aE.length) (hk:kind=9) :
    cX D8 279 [.agg [.int .i64 aW,.int .i64 aV,.int .i64 aN,.int .i64 aX,.int .i64 aG,.int .i64 aO,.bool aA,.int .i64 bT,.int .i64 bV,.int .i64 bU,.slv 2 (aB.map cU),.slv 1 (aD.map aS),.slv 1 (aC.map aS),.int .i64 aZ,.slv 1 (aT.map aS),.int .i64 bA,.slv 1 (aU.map aS),.int .i64 aL,.slv 11 (aE.map bH),.slv 5 (([]:List Entry).map cO)],.int .i64 id,.int .i64 kind,.int .i64 res,.int .i64 got] (.agg (dM (E4 (E3 aW aV aN aX aG aO aA) (E8 bT bV bU) aB aD aC (D7 aZ aT) (D7 bA aU) aL aE []) (.slm 1 aE.length) (.slv 5 (([] ++ [(⟨id,kind,(me (E4 (E3 aW aV aN aX aG aO aA) (E8 bT bV bU) aB aD aC (D7 aZ aT) (D7 bA aU) aL aE []) id).val,res,got⟩:Entry)]).map cO))),[(1,some (.rows 42 11 (aE.map bH)))],[]):=by
  have hid:id.toNat<aE.length:=by omega
  have hkb:decide (kind=9)=true:=by simp [hk]
  refine Wc ?_ ?_
  all_goals refine aI bP AE (by simp [Dg]) fun hw _=>?_
  all_goals clear hw
  all_goals
    repeat' with_reducible first|refine aQ (fun h=>?_) (fun h=>?_)|refine bB (fun h=>?_) (fun h=>?_)|refine aF (fun h=>?_) (fun h=>?_)|refine aH (fun h=>?_) (fun h=>?_)|refine Gl (by simp -implicitDefEqProofs only [qA,bN,bD,bO,aJ,aP,qU,D1,D4,D5,D3,D0,D6,reduceIte,reduceCtorEq,qI,E2,E1, *]; first|exact rfl|exact ⟨rfl,rfl⟩) ?_ ?_ ?_ ?_|refine aR ?_ ?_|refine bC ?_ ?_|refine bM ?_ ?_|refine I0 bP AG Dl ?_ ?_ ?_ ?_ ?_|refine I0 bP Tl zX ?_ ?_ ?_ ?_ ?_|refine I0 bP AF Ob ?_ ?_ ?_ ?_ ?_|refine IA ?_ ?_ ?_|refine L1 ?_ ?_|refine L2 ?_ ?_|refine L3 ?_ ?_ ?_ ?_|refine L4 ?_ ?_|refine L5 ?_ ?_ ?_ ?_ ?_|refine L6 ?_ ?_ ?_ ?_ ?_|refine P0 (iS ?_ ?_ ?_ ?_ ?_ ?_ ?_) ?_ ?_ ?_|refine P0 (Gb (iS (aK:=[]) ?_ ?_ ?_ ?_ ?_ ?_ ?_)) ?_ ?_ ?_|refine P0 (Gc (iS (aK:=[]) ?_ ?_ ?_ ?_ ?_ ?_ ?_)) ?_ ?_ ?_|refine N1 (nG hne ?_) ?_ ?_|refine jJ (eL _ _ _ _ _ _ (by simp -implicitDefEqProofs only [m_get,D0,reduceIte,if_true,if_false]; first|done|exact rfl) ?_) ?_ ?_ ?_ ?_|refine eM (eL _ _ _ _ _ _ (by simp -implicitDefEqProofs only [m_get,D0,reduceIte,if_true,if_false]; first|done|exact rfl) ?_) (by simp -implicitDefEqProofs only [m_get,D0,reduceIte,if_true,if_false]; first|done|exact rfl) ?_ ?_ ?_ ?_|refine P0 Ng ?_ ?_ ?_|refine N1 Nd ?_ ?_|refine P0 (dR ?_) ?_ ?_ ?_|refine F2 (dR ?_) ?_ ?_ ?_|refine F7 (dR ?_) ?_ ?_|refine P0 (eV ?_) ?_ ?_ ?_|refine F2 (eV ?_) ?_ ?_ ?_|refine F7 (eV ?_) ?_ ?_|simp -implicitDefEqProofs only [Dg,qA,bN,bD,bO,aJ,aP,qU,D1,D4,D5,D3,D0,D6,reduceIte,reduceCtorEq,qI,E2,E1,Qn,Kp,Km,cL,E0,bH,hchk,hge,hlt,hk,bY,set_set,bG,hkb,Al,uA, *]
  all_goals first
    | omega
    | (simp; done)
    | (simp at *; omega)
    | (constructor <;> omega)
    | rfl
    | (simp [tC, *]; rfl)
    | skip

theorem Vp {aW aV:Int} {aN aX:Int} {aG aO:Int} {aA:Bool} {bT bV bU:Int} {aB:List Slot} {aD aC:List Int} {aZ:Int} {aT:List Int} {bA:Int} {aU:List Int} {aL:Int} {aE:List Thread} {aK:List Entry} {id kind res got:Int} (h1:aB.length≤100000000) (h2:aD.length≤100000000) (h3:aC.length≤100000000) (h4:aT.length≤100000000) (h5:aU.length≤100000000) (h6:aE.length≤100000000) (h7:aK.length≤100000000) (hne:aE≠[]) (hchk:bZ (E4 (E3 aW aV aN aX aG aO aA) (E8 bT bV bU) aB aD aC (D7 aZ aT) (D7 bA aU) aL aE aK)=true) (hge:id≥0) (hlt:id<aE.length) (hk:¬ kind=9) (hnl:aK≠[]):
    cX D8 279 [.agg [.int .i64 aW,.int .i64 aV,.int .i64 aN,.int .i64 aX,.int .i64 aG,.int .i64 aO,.bool aA,.int .i64 bT,.int .i64 bV,.int .i64 bU,.slv 2 (aB.map cU),.slv 1 (aD.map aS),.slv 1 (aC.map aS),.int .i64 aZ,.slv 1 (aT.map aS),.int .i64 bA,.slv 1 (aU.map aS),.int .i64 aL,.slv 11 (aE.map bH),.slv 5 (aK.map cO)],.int .i64 id,.int .i64 kind,.int .i64 res,.int .i64 got] (.agg (dM (E4 (E3 aW aV aN aX aG aO aA) (E8 bT bV bU) aB aD aC (D7 aZ aT) (D7 bA aU) aL aE aK) (.slm 1 aE.length) (.slv 5 ((aK ++ [(⟨id,kind,(me (E4 (E3 aW aV aN aX aG aO aA) (E8 bT bV bU) aB aD aC (D7 aZ aT) (D7 bA aU) aL aE aK) id).val,res,got⟩:Entry)]).map cO))),[(1,some (.rows 42 11 ((aE.set id.toNat (nY (me (E4 (E3 aW aV aN aX aG aO aA) (E8 bT bV bU) aB aD aC (D7 aZ aT) (D7 bA aU) aL aE aK) id) kind res got)).map bH)))],[]):=by
  have hid:id.toNat<aE.length:=by omega
  have hkb:decide (kind=9)=false:=by simp [hk]
  rw [show nY (me (E4 (E3 aW aV aN aX aG aO aA) (E8 bT bV bU) aB aD aC (D7 aZ aT) (D7 bA aU) aL aE aK) id) kind res got=⟨(me (E4 (E3 aW aV aN aX aG aO aA) (E8 bT bV bU) aB aD aC (D7 aZ aT) (D7 bA aU) aL aE aK) id).st,(me (E4 (E3 aW aV aN aX aG aO aA) (E8 bT bV bU) aB aD aC (D7 aZ aT) (D7 bA aU) aL aE aK) id).kind,(me (E4 (E3 aW aV aN aX aG aO aA) (E8 bT bV bU) aB aD aC (D7 aZ aT) (D7 bA aU) aL aE aK) id).val,(me (E4 (E3 aW aV aN aX aG aO aA) (E8 bT bV bU) aB aD aC (D7 aZ aT) (D7 bA aU) aL aE aK) id).untl,(me (E4 (E3 aW aV aN aX aG aO aA) (E8 bT bV bU) aB aD aC (D7 aZ aT) (D7 bA aU) aL aE aK) id).pc,(me (E4 (E3 aW aV aN aX aG aO aA) (E8 bT bV bU) aB aD aC (D7 aZ aT) (D7 bA aU) aL aE aK) id).reg,(me (E4 (E3 aW aV aN aX aG aO aA) (E8 bT bV bU) aB aD aC (D7 aZ aT) (D7 bA aU) aL aE aK) id).seen,(me (E4 (E3 aW aV aN aX aG aO aA) (E8 bT bV bU) aB aD aC (D7 aZ aT) (D7 bA aU) aL aE aK) id).tries,(me (E4 (E3 aW aV aN aX aG aO aA) (E8 bT bV bU) aB aD aC (D7 aZ aT) (D7 bA aU) aL aE aK) id).late,res,got⟩ from by simp [nY,hk]]
  refine aI bP AE (by simp [Dg]) fun hw _=>?_
  clear hw
  repeat' with_reducible first|refine aQ (fun h=>?_) (fun h=>?_)|refine bB (fun h=>?_) (fun h=>?_)|refine aF (fun h=>?_) (fun h=>?_)|refine aH (fun h=>?_) (fun h=>?_)|refine Gl (by simp -implicitDefEqProofs only [qA,bN,bD,bO,aJ,aP,qU,D1,D4,D5,D3,D0,D6,reduceIte,reduceCtorEq,qI,E2,E1, *]; first|exact rfl|exact ⟨rfl,rfl⟩) ?_ ?_ ?_ ?_|refine aR ?_ ?_|refine bC ?_ ?_|refine bM ?_ ?_|refine I0 bP AG Dl ?_ ?_ ?_ ?_ ?_|refine I0 bP Tl zX ?_ ?_ ?_ ?_ ?_|refine I0 bP AF Ob ?_ ?_ ?_ ?_ ?_|refine IA ?_ ?_ ?_|refine L1 ?_ ?_|refine L2 ?_ ?_|refine L3 ?_ ?_ ?_ ?_|refine L4 ?_ ?_|refine L5 ?_ ?_ ?_ ?_ ?_|refine L6 ?_ ?_ ?_ ?_ ?_|refine P0 (iS ?_ ?_ ?_ ?_ ?_ ?_ ?_) ?_ ?_ ?_|refine P0 (Gb (iS (aK:=[]) ?_ ?_ ?_ ?_ ?_ ?_ ?_)) ?_ ?_ ?_|refine P0 (Gc (iS (aK:=[]) ?_ ?_ ?_ ?_ ?_ ?_ ?_)) ?_ ?_ ?_|refine N1 (nG hne ?_) ?_ ?_|refine jJ (eL _ _ _ _ _ _ (by simp -implicitDefEqProofs only [m_get,D0,reduceIte,if_true,if_false]; first|done|exact rfl) ?_) ?_ ?_ ?_ ?_|refine eM (eL _ _ _ _ _ _ (by simp -implicitDefEqProofs only [m_get,D0,reduceIte,if_true,if_false]; first|done|exact rfl) ?_) (by simp -implicitDefEqProofs only [m_get,D0,reduceIte,if_true,if_false]; first|done|exact rfl) ?_ ?_ ?_ ?_|refine N1 (Nf hnl ?_) ?_ ?_|refine P0 (dR ?_) ?_ ?_ ?_|refine F2 (dR ?_) ?_ ?_ ?_|refine F7 (dR ?_) ?_ ?_|refine P0 (eV ?_) ?_ ?_ ?_|refine F2 (eV ?_) ?_ ?_ ?_|refine F7 (eV ?_) ?_ ?_|simp -implicitDefEqProofs only [Dg,qA,bN,bD,bO,aJ,aP,qU,D1,D4,D5,D3,D0,D6,reduceIte,reduceCtorEq,qI,E2,E1,Qn,Kp,Km,cL,E0,bH,hchk,hge,hlt,hk,bY,set_set,bG,hkb,Al,uA, *]
  all_goals first
    | omega
    | (simp; done)
    | (simp at *; omega)
    | (constructor <;> omega)
    | rfl
    | (simp [tC, *]; rfl)
    | skip

theorem Vr {aW aV:Int} {aN aX:Int} {aG aO:Int} {aA:Bool} {bT bV bU:Int} {aB:List Slot} {aD aC:List Int} {aZ:Int} {aT:List Int} {bA:Int} {aU:List Int} {aL:Int} {aE:List Thread}  {id kind res got:Int} (h1:aB.length≤100000000) (h2:aD.length≤100000000) (h3:aC.length≤100000000) (h4:aT.length≤100000000) (h5:aU.length≤100000000) (h6:aE.length≤100000000)  (hne:aE≠[]) (hchk:bZ (E4 (E3 aW aV aN aX aG aO aA) (E8 bT bV bU) aB aD aC (D7 aZ aT) (D7 bA aU) aL aE [])=true) (hge:id≥0) (hlt:id<aE.length) (hk:¬ kind=9) :
    cX D8 279 [.agg [.int .i64 aW,.int .i64 aV,.int .i64 aN,.int .i64 aX,.int .i64 aG,.int .i64 aO,.bool aA,.int .i64 bT,.int .i64 bV,.int .i64 bU,.slv 2 (aB.map cU),.slv 1 (aD.map aS),.slv 1 (aC.map aS),.int .i64 aZ,.slv 1 (aT.map aS),.int .i64 bA,.slv 1 (aU.map aS),.int .i64 aL,.slv 11 (aE.map bH),.slv 5 (([]:List Entry).map cO)],.int .i64 id,.int .i64 kind,.int .i64 res,.int .i64 got] (.agg (dM (E4 (E3 aW aV aN aX aG aO aA) (E8 bT bV bU) aB aD aC (D7 aZ aT) (D7 bA aU) aL aE []) (.slm 1 aE.length) (.slv 5 (([] ++ [(⟨id,kind,(me (E4 (E3 aW aV aN aX aG aO aA) (E8 bT bV bU) aB aD aC (D7 aZ aT) (D7 bA aU) aL aE []) id).val,res,got⟩:Entry)]).map cO))),[(1,some (.rows 42 11 ((aE.set id.toNat (nY (me (E4 (E3 aW aV aN aX aG aO aA) (E8 bT bV bU) aB aD aC (D7 aZ aT) (D7 bA aU) aL aE []) id) kind res got)).map bH)))],[]):=by
  have hid:id.toNat<aE.length:=by omega
  have hkb:decide (kind=9)=false:=by simp [hk]
  rw [show nY (me (E4 (E3 aW aV aN aX aG aO aA) (E8 bT bV bU) aB aD aC (D7 aZ aT) (D7 bA aU) aL aE []) id) kind res got=⟨(me (E4 (E3 aW aV aN aX aG aO aA) (E8 bT bV bU) aB aD aC (D7 aZ aT) (D7 bA aU) aL aE []) id).st,(me (E4 (E3 aW aV aN aX aG aO aA) (E8 bT bV bU) aB aD aC (D7 aZ aT) (D7 bA aU) aL aE []) id).kind,(me (E4 (E3 aW aV aN aX aG aO aA) (E8 bT bV bU) aB aD aC (D7 aZ aT) (D7 bA aU) aL aE []) id).val,(me (E4 (E3 aW aV aN aX aG aO aA) (E8 bT bV bU) aB aD aC (D7 aZ aT) (D7 bA aU) aL aE []) id).untl,(me (E4 (E3 aW aV aN aX aG aO aA) (E8 bT bV bU) aB aD aC (D7 aZ aT) (D7 bA aU) aL aE []) id).pc,(me (E4 (E3 aW aV aN aX aG aO aA) (E8 bT bV bU) aB aD aC (D7 aZ aT) (D7 bA aU) aL aE []) id).reg,(me (E4 (E3 aW aV aN aX aG aO aA) (E8 bT bV bU) aB aD aC (D7 aZ aT) (D7 bA aU) aL aE []) id).seen,(me (E4 (E3 aW aV aN aX aG aO aA) (E8 bT bV bU) aB aD aC (D7 aZ aT) (D7 bA aU) aL aE []) id).tries,(me (E4 (E3 aW aV aN aX aG aO aA) (E8 bT bV bU) aB aD aC (D7 aZ aT) (D7 bA aU) aL aE []) id).late,res,got⟩ from by simp [nY,hk]]
  refine Wc ?_ ?_
  all_goals refine aI bP AE (by simp [Dg]) fun hw _=>?_
  all_goals clear hw
  all_goals
    repeat' with_reducible first|refine aQ (fun h=>?_) (fun h=>?_)|refine bB (fun h=>?_) (fun h=>?_)|refine aF (fun h=>?_) (fun h=>?_)|refine aH (fun h=>?_) (fun h=>?_)|refine Gl (by simp -implicitDefEqProofs only [qA,bN,bD,bO,aJ,aP,qU,D1,D4,D5,D3,D0,D6,reduceIte,reduceCtorEq,qI,E2,E1, *]; first|exact rfl|exact ⟨rfl,rfl⟩) ?_ ?_ ?_ ?_|refine aR ?_ ?_|refine bC ?_ ?_|refine bM ?_ ?_|refine I0 bP AG Dl ?_ ?_ ?_ ?_ ?_|refine I0 bP Tl zX ?_ ?_ ?_ ?_ ?_|refine I0 bP AF Ob ?_ ?_ ?_ ?_ ?_|refine IA ?_ ?_ ?_|refine L1 ?_ ?_|refine L2 ?_ ?_|refine L3 ?_ ?_ ?_ ?_|refine L4 ?_ ?_|refine L5 ?_ ?_ ?_ ?_ ?_|refine L6 ?_ ?_ ?_ ?_ ?_|refine P0 (iS ?_ ?_ ?_ ?_ ?_ ?_ ?_) ?_ ?_ ?_|refine P0 (Gb (iS (aK:=[]) ?_ ?_ ?_ ?_ ?_ ?_ ?_)) ?_ ?_ ?_|refine P0 (Gc (iS (aK:=[]) ?_ ?_ ?_ ?_ ?_ ?_ ?_)) ?_ ?_ ?_|refine N1 (nG hne ?_) ?_ ?_|refine jJ (eL _ _ _ _ _ _ (by simp -implicitDefEqProofs only [m_get,D0,reduceIte,if_true,if_false]; first|done|exact rfl) ?_) ?_ ?_ ?_ ?_|refine eM (eL _ _ _ _ _ _ (by simp -implicitDefEqProofs only [m_get,D0,reduceIte,if_true,if_false]; first|done|exact rfl) ?_) (by simp -implicitDefEqProofs only [m_get,D0,reduceIte,if_true,if_false]; first|done|exact rfl) ?_ ?_ ?_ ?_|refine P0 Ng ?_ ?_ ?_|refine N1 Nd ?_ ?_|refine P0 (dR ?_) ?_ ?_ ?_|refine F2 (dR ?_) ?_ ?_ ?_|refine F7 (dR ?_) ?_ ?_|refine P0 (eV ?_) ?_ ?_ ?_|refine F2 (eV ?_) ?_ ?_ ?_|refine F7 (eV ?_) ?_ ?_|simp -implicitDefEqProofs only [Dg,qA,bN,bD,bO,aJ,aP,qU,D1,D4,D5,D3,D0,D6,reduceIte,reduceCtorEq,qI,E2,E1,Qn,Kp,Km,cL,E0,bH,hchk,hge,hlt,hk,bY,set_set,bG,hkb,Al,uA, *]
  all_goals first
    | omega
    | (simp; done)
    | (simp at *; omega)
    | (constructor <;> omega)
    | rfl
    | (simp [tC, *]; rfl)
    | skip

end Go.Sak
