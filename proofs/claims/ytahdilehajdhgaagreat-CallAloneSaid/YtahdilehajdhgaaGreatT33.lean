/- Part T33 of the proofs about the program: K33, K34, K35. Conditions: none. -/
import Derived.Test.YtahdilehajdhgaaGreatT32
import Derived.Test.YtahdilehajdhgaaGreatT22
open Go.Sak.ACK renaming of→F7
open Go.Sak.ACV renaming of→F2
open Go.Sak.Config renaming mk→E3
open Go.Sak.Event renaming mk→D7
open List renaming reduceReplicate→D1
open Nat renaming reduceAdd→D4,reduceBEq→E1,reduceEqDiff→D0,reduceLT→E2,reduceLeDiff→D3,reduceMul→D6,reduceSub→D5
open Go.Sak.State renaming mk→E4
open Go.Sak.Word renaming mk→E8
namespace Go.Sak
open Go Go.RowKit Go.Proofs
set_option linter.unusedVariables false
set_option linter.unusedSimpArgs false
set_option maxRecDepth 10000
set_option maxHeartbeats 8000000
def XW:AFn:=⟨25,(.seq (.reg [o1 2 (.mv (.const .slnil))]) (.seq (.seq (.reg [o1 5 (.mv 0),o1 6 (.bin .lss 5 (ci 1)),o1 7 (.mv 6),o4 8 (.mv 0) 7,o4 9 (.bin .gtr 8 (ci 64)) 7,o1 10 (.pick 7 (.const (.bool true)) 9)]) (.cond 10 (.seq (.reg [o1 2 (.mv (.const .slnil))]) .ret) .skip)) (.seq (.reg [o1 11 (.mv 0),o1 12 (.mkslice 107 2 [(.int .i64 0),(.int .i64 0)] 16 11 11),o1 3 (.mv 12)]) (.seq (.seq (.reg [o1 13 (.mv 3),o1 14 (.len 13),o1 15 (.mv (ci 0))]) (.block 0 (.loop (.seq (.reg [o1 16 (.bin .lss 15 14)]) (.seq (.cond 16 .skip (.exit 0)) (.seq (.block 1 (.seq (.reg [o1 17 (.mv 15),o1 4 (.mv 17)]) (.reg [o1 18 (.mv 3),o1 19 (.mv 4),o1 20 (.mv 4),o1 21 (.iaddr 2 18 19),o1 22 (.faddr 0 21),o2 (.st 1 22 20)]))) (.reg [o1 23 (.bin .add 15 (ci 1)),o1 15 (.mv 23)]))))))) (.seq (.reg [o1 24 (.mv 3),o1 2 (.mv 24)]) .ret))))),[(2,none)]⟩
theorem C7:xf Tryz.prog 77=some XW:=by kernel_rfl
set_option maxHeartbeats 8000000
def XV:AFn:=⟨19,(.seq (.reg [o1 1 (.box 23 0),o1 2 (.alloc 33 [(.int .i64 0),(.int .i64 0),(.int .i64 0),(.int .i64 0),(.int .i64 0),(.int .i64 0),(.bool false),(.int .i64 0),(.int .i64 0),(.int .i64 0),.slnil,.slnil,.slnil,(.int .i64 0),.slnil,(.int .i64 0),.slnil,(.int .i64 0),.slnil,.slnil]),o1 3 (.mv (ci 0))]) (.seq (.seq (.reg [o1 5 (.ld 7 true 1),o1 6 (.call 76 [5]),o1 4 (.mv 6)]) (.seq (.reg [o1 7 (.mv 4),o1 8 (.bin .neq 7 (ci 0))]) (.cond 8 (.seq (.reg [o1 9 (.build [(.int .i64 0),(.int .i64 0),(.int .i64 0),(.int .i64 0),(.int .i64 0),(.int .i64 0),(.bool false),(.int .i64 0),(.int .i64 0),(.int .i64 0),.slnil,.slnil,.slnil,(.int .i64 0),.slnil,(.int .i64 0),.slnil,(.int .i64 0),.slnil,.slnil] []),o1 10 (.mv 4),o2 (.st 20 2 9),o1 3 (.mv 10)]) .ret) .skip))) (.seq (.regT [o1 11 (.ld 7 true 1),o1 12 (.ld 7 true 1),o1 13 (.call 49 [12]),o1 14 (.call 77 [13]),o1 15 (.faddr 1 1),o1 16 (.ld 1 false 15),o1 17 (.mkslice 42 11 [(.int .i64 0),(.int .i64 0),(.int .i64 0),(.int .i64 0),(.int .i64 0),(.int .i64 0),(.int .i64 0),(.int .i64 0),(.bool false),(.int .i64 0),(.int .i64 0)] 88 16 16),o1 18 (.build [(.int .i64 0),(.int .i64 0),(.int .i64 0),(.int .i64 0),(.int .i64 0),(.int .i64 0),(.bool false),(.int .i64 0),(.int .i64 0),(.int .i64 0),.slnil,.slnil,.slnil,(.int .i64 0),.slnil,(.int .i64 0),.slnil,(.int .i64 0),.slnil,.slnil] [(0,7,11),(10,1,14),(18,1,17)]),o2 (.st 20 2 18),o1 3 (.mv (ci 0))] [(0,1),(0,2),(0,3),(0,4),(1,4),(2,4),(3,4),(0,5),(1,5),(2,5),(3,5),(0,6),(1,6),(2,6),(3,6)]) .ret))),[(2,some (20,true)),(3,none)]⟩
theorem C2:xf Tryz.prog 36=some XV:=by kernel_rfl
set_option maxHeartbeats 8000000
def UZ:AFn:=⟨18,(.regT [o1 7 (.mv 0),o1 8 (.mv 0),o1 9 (.nilchk 8),o1 10 (.ld 11 true 9),o1 11 (.ld 1 false 1),o1 12 (.ld 1 false 2),o1 13 (.ld 1 false 3),o1 14 (.call 82 [10,11,12,13]),o1 6 (.mv 14),o1 15 (.ext 6 0),o1 16 (.ext 6 1),o1 17 (.nilchk 7),o2 (.st 11 17 15),o2 (.st 1 4 16)] [(2,4),(3,4),(2,5),(3,5),(4,5),(2,6),(3,6),(4,6),(5,6)]),[]⟩
theorem ZD:xf Tryz.prog 81=some UZ:=by kernel_rfl
theorem WN:UZ.code.lf=true:=rfl
def HR:AFn:=⟨32,(.seq (.reg [o1 5 (.box 33 0),o1 7 (.box 3 2),o1 8 (.box 3 3),o1 9 (.box 3 4),o1 10 (.alloc 33 [(.int .i64 0),(.int .i64 0),(.int .i64 0),(.int .i64 0),(.int .i64 0),(.int .i64 0),(.bool false),(.int .i64 0),(.int .i64 0),(.int .i64 0),.slnil,.slnil,.slnil,(.int .i64 0),.slnil,(.int .i64 0),.slnil,(.int .i64 0),.slnil,.slnil]),o1 11 (.mv (ci 0))]) (.seq (.reg [o1 12 (.alloc 36 [(.int .i64 0)]),o2 (.st 1 12 (ci 20))]) (.seq (.seq (.reg [o1 14 (.ld 20 true 5),o1 15 (.call 18 [14])]) (.cond 15 (.reg [o1 16 (.faddr 0 5),o1 17 (.ld 7 true 16),o1 18 (.mv 1),o1 19 (.ld 1 false 7),o1 20 (.call 78 [17,18,19]),o2 (.st 1 12 20)]) .skip)) (.seq (.seq (.reg [o1 21 (.ld 1 false 12),o1 22 (.bin .neq 21 (ci 0))]) (.cond 22 (.seq (.regT [o1 23 (.ld 20 true 5),o1 24 (.call 79 [23]),o1 25 (.ld 1 false 12),o2 (.st 20 10 24),o1 11 (.mv 25)] [(0,2),(1,2),(2,3)]) .ret) .skip)) (.seq (.reg [o1 26 (.ld 20 true 5),o1 27 (.mv 1),o1 28 (.mkfn (.func 81) [] [7,8,9,12]),o1 29 (.call 80 [26,27,28]),o1 13 (.alloc 33 [(.int .i64 0),(.int .i64 0),(.int .i64 0),(.int .i64 0),(.int .i64 0),(.int .i64 0),(.bool false),(.int .i64 0),(.int .i64 0),(.int .i64 0),.slnil,.slnil,.slnil,(.int .i64 0),.slnil,(.int .i64 0),.slnil,(.int .i64 0),.slnil,.slnil]),o2 (.st 20 13 29)]) (.seq (.regT [o1 30 (.ld 20 true 13),o1 31 (.ld 1 false 12),o2 (.st 20 10 30),o1 11 (.mv 31)] [(0,1),(1,2)]) .ret)))))),[(10,some (20,true)),(11,none)]⟩
theorem VX:xf Tryz.prog 37=some HR:=by kernel_rfl
theorem OC {aW aV:Int} {aN aX:Int} {aG aO:Int} {aA:Bool} {bT bV bU:Int} {aB:List Slot} {aD aC:List Int} {aZ:Int} {aT:List Int} {bA:Int} {aU:List Int} {aL:Int} {aE:List Thread} {aK:List Entry} {id kind val untl:Int} (h1:aB.length≤100000000) (h2:aD.length≤100000000) (h3:aC.length≤100000000) (h4:aT.length≤100000000) (h5:aU.length≤100000000) (h6:aE.length≤100000000) (h7:aK.length≤100000000):cX Tryz.prog 37 [.agg [.int .i64 aW,.int .i64 aV,.int .i64 aN,.int .i64 aX,.int .i64 aG,.int .i64 aO,.bool aA,.int .i64 bT,.int .i64 bV,.int .i64 bU,.slv 2 (aB.map cU),.slv 1 (aD.map aS),.slv 1 (aC.map aS),.int .i64 aZ,.slv 1 (aT.map aS),.int .i64 bA,.slv 1 (aU.map aS),.int .i64 aL,.slv 11 (aE.map bH),.slv 5 (aK.map cO)],.int .i64 id,.int .i64 kind,.int .i64 val,.int .i64 untl] (.tup [.agg (bR (fN (E4 (E3 aW aV aN aX aG aO aA) (E8 bT bV bU) aB aD aC (D7 aZ aT) (D7 bA aU) aL aE aK) id kind val untl).1),.int .i64 (fN (E4 (E3 aW aV aN aX aG aO aA) (E8 bT bV bU) aB aD aC (D7 aZ aT) (D7 bA aU) aL aE aK) id kind val untl).2],[],[]):=by
  by_cases hchk:bZ (E4 (E3 aW aV aN aX aG aO aA) (E8 bT bV bU) aB aD aC (D7 aZ aT) (D7 bA aU) aL aE aK)=true
  · by_cases hmay:uJ aV aA id kind=0
    · have hI:cN (E4 (E3 aW aV aN aX aG aO aA) (E8 bT bV bU) aB aD aC (D7 aZ aT) (D7 bA aU) aL aE aK) id=true:=by
        have hl:(aE.length:Int)=aV:=by
          have hchk':=hchk
          simp only [bZ,Bool.and_eq_true,decide_eq_true_eq] at hchk'
          exact hchk'.1.2
        simp only [cN,hchk,Bool.true_and,Bool.and_eq_true,decide_eq_true_eq]
        unfold uJ at hmay
        split at hmay
        · simp at hmay
        · omega
      rw [show fN (E4 (E3 aW aV aN aX aG aO aA) (E8 bT bV bU) aB aD aC (D7 aZ aT) (D7 bA aU) aL aE aK) id kind val untl=(dD (E4 (E3 aW aV aN aX aG aO aA) (E8 bT bV bU) aB aD aC (D7 aZ aT) (D7 bA aU) aL aE aK) id (jA (me (E4 (E3 aW aV aN aX aG aO aA) (E8 bT bV bU) aB aD aC (D7 aZ aT) (D7 bA aU) aL aE aK) id) kind val untl).1,(jA (me (E4 (E3 aW aV aN aX aG aO aA) (E8 bT bV bU) aB aD aC (D7 aZ aT) (D7 bA aU) aL aE aK) id) kind val untl).2) from by unfold fN; rw [if_neg (by simp [hchk]),if_neg (by simpa using hmay),if_pos hI]]
      have hI':=hI
      simp only [cN,Bool.and_eq_true,decide_eq_true_eq] at hI'
      obtain ⟨⟨_,hge⟩,hlt⟩:=hI'
      have hid:id.toNat<aE.length:=by omega
      have hne:aE≠[]:=by intro h; subst h; simp at hlt; omega
      clear hI
      refine aI bP VX (by simp [HR]) fun hw _=>?_
      clear hw
      repeat' with_reducible first|refine aQ (fun h=>?_) (fun h=>?_)|refine bB (fun h=>?_) (fun h=>?_)|refine aF (fun h=>?_) (fun h=>?_)|refine aH (fun h=>?_) (fun h=>?_)|refine FN ?_ ?_ ?_ ?_ rfl ?_|refine aR ?_ ?_|refine bC ?_ ?_|refine bM ?_ ?_|refine I2 bP AG Dl ?_ ?_ ?_ ?_ ?_|refine I2 bP Tl zX ?_ ?_ ?_ ?_ ?_|refine I2 bP ZD WN ?_ ?_ ?_ ?_ ?_|refine IA ?_ ?_ ?_|refine L1 ?_ ?_|refine L2 ?_ ?_|refine L3 ?_ ?_ ?_ ?_|refine L4 ?_ ?_|refine L5 ?_ ?_ ?_ ?_ ?_|refine L6 ?_ ?_ ?_ ?_ ?_|refine P0 (iS ?_ ?_ ?_ ?_ ?_ ?_ ?_) ?_ ?_ ?_|refine N1 (nG hne ?_) ?_ ?_|refine P0 (dR ?_) ?_ ?_ ?_|refine F2 (dR ?_) ?_ ?_ ?_|refine F7 (dR ?_) ?_ ?_|refine P0 (eV ?_) ?_ ?_ ?_|refine F2 (eV ?_) ?_ ?_ ?_|refine F7 (eV ?_) ?_ ?_|refine P0 (gW ?_) ?_ ?_ ?_|refine F2 (gW ?_) ?_ ?_ ?_|refine F7 (gW ?_) ?_ ?_|refine P0 (Vx) ?_ ?_ ?_|refine F2 (Vx) ?_ ?_ ?_|refine F7 (Vx) ?_ ?_|refine P0 (wG) ?_ ?_ ?_|refine F2 (wG) ?_ ?_ ?_|refine F7 (wG) ?_ ?_|simp -implicitDefEqProofs only [HR,qA,bN,bD,bO,aJ,aP,qU,D1,D4,D5,D3,D0,D6,reduceIte,reduceCtorEq,qI,E2,E1,Qn,Kp,UZ,cL,Int.toNat_natCast,bH,hchk,hge,hlt,hmay,dM,set_set,bG, *]
      all_goals first
        | omega
        | (constructor <;> omega)
        | exact Wk.refl _
        | skip
    · rw [show fN (E4 (E3 aW aV aN aX aG aO aA) (E8 bT bV bU) aB aD aC (D7 aZ aT) (D7 bA aU) aL aE aK) id kind val untl=((E4 (E3 aW aV aN aX aG aO aA) (E8 bT bV bU) aB aD aC (D7 aZ aT) (D7 bA aU) aL aE aK),uJ aV aA id kind) from by unfold fN; rw [if_neg (by simp [hchk]),if_pos hmay]]
      refine aI bP VX (by simp [HR]) fun hw _=>?_
      clear hw
      repeat' with_reducible first|refine aQ (fun h=>?_) (fun h=>?_)|refine bB (fun h=>?_) (fun h=>?_)|refine aF (fun h=>?_) (fun h=>?_)|refine aH (fun h=>?_) (fun h=>?_)|refine FN ?_ ?_ ?_ ?_ rfl ?_|refine aR ?_ ?_|refine bC ?_ ?_|refine bM ?_ ?_|refine I2 bP Tl zX ?_ ?_ ?_ ?_ ?_|refine IA ?_ ?_ ?_|refine L1 ?_ ?_|refine L2 ?_ ?_|refine L3 ?_ ?_ ?_ ?_|refine L4 ?_ ?_|refine L5 ?_ ?_ ?_ ?_ ?_|refine L6 ?_ ?_ ?_ ?_ ?_|refine P0 (iS ?_ ?_ ?_ ?_ ?_ ?_ ?_) ?_ ?_ ?_|refine P0 (dR ?_) ?_ ?_ ?_|refine F2 (dR ?_) ?_ ?_ ?_|refine F7 (dR ?_) ?_ ?_|refine P0 (eV ?_) ?_ ?_ ?_|refine F2 (eV ?_) ?_ ?_ ?_|refine F7 (eV ?_) ?_ ?_|refine P0 (gW ?_) ?_ ?_ ?_|refine F2 (gW ?_) ?_ ?_ ?_|refine F7 (gW ?_) ?_ ?_|refine P0 (pY ?_) ?_ ?_ ?_|refine F2 (pY ?_) ?_ ?_ ?_|refine F7 (pY ?_) ?_ ?_|refine P0 (wG) ?_ ?_ ?_|refine F2 (wG) ?_ ?_ ?_|refine F7 (wG) ?_ ?_|simp -implicitDefEqProofs only [HR,qA,bN,bD,bO,aJ,aP,qU,D1,D4,D5,D3,D0,D6,reduceIte,reduceCtorEq,qI,E2,E1,Kp,cL,Int.toNat_natCast,bH,hmay, *]
      all_goals first
        | omega
        | (constructor <;> omega)
        | exact Wk.refl _
        | skip
  · rw [show fN (E4 (E3 aW aV aN aX aG aO aA) (E8 bT bV bU) aB aD aC (D7 aZ aT) (D7 bA aU) aL aE aK) id kind val untl=((E4 (E3 aW aV aN aX aG aO aA) (E8 bT bV bU) aB aD aC (D7 aZ aT) (D7 bA aU) aL aE aK),20) from by unfold fN; rw [if_pos hchk]]
    have hmay:True:=trivial
    refine aI bP VX (by simp [HR]) fun hw _=>?_
    clear hw
    repeat' with_reducible first|refine aQ (fun h=>?_) (fun h=>?_)|refine bB (fun h=>?_) (fun h=>?_)|refine aF (fun h=>?_) (fun h=>?_)|refine aH (fun h=>?_) (fun h=>?_)|refine FN ?_ ?_ ?_ ?_ rfl ?_|refine aR ?_ ?_|refine bC ?_ ?_|refine bM ?_ ?_|refine I2 bP Tl zX ?_ ?_ ?_ ?_ ?_|refine IA ?_ ?_ ?_|refine L1 ?_ ?_|refine L2 ?_ ?_|refine L3 ?_ ?_ ?_ ?_|refine L4 ?_ ?_|refine L5 ?_ ?_ ?_ ?_ ?_|refine L6 ?_ ?_ ?_ ?_ ?_|refine P0 (iS ?_ ?_ ?_ ?_ ?_ ?_ ?_) ?_ ?_ ?_|refine P0 (dR ?_) ?_ ?_ ?_|refine F2 (dR ?_) ?_ ?_ ?_|refine F7 (dR ?_) ?_ ?_|refine P0 (eV ?_) ?_ ?_ ?_|refine F2 (eV ?_) ?_ ?_ ?_|refine F7 (eV ?_) ?_ ?_|refine P0 (gW ?_) ?_ ?_ ?_|refine F2 (gW ?_) ?_ ?_ ?_|refine F7 (gW ?_) ?_ ?_|refine P0 (pY ?_) ?_ ?_ ?_|refine F2 (pY ?_) ?_ ?_ ?_|refine F7 (pY ?_) ?_ ?_|refine P0 (wG) ?_ ?_ ?_|refine F2 (wG) ?_ ?_ ?_|refine F7 (wG) ?_ ?_|simp -implicitDefEqProofs only [HR,qA,bN,bD,bO,aJ,aP,qU,D1,D4,D5,D3,D0,D6,reduceIte,reduceCtorEq,qI,E2,E1,Kp,cL,Int.toNat_natCast,bH,hmay, *]
    all_goals first
      | omega
      | (constructor <;> omega)
      | exact Wk.refl _
      | exact absurd h (by decide)
      | skip

end Go.Sak
