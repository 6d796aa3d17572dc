/- Part T74 of the proofs about the program: K82. Conditions: none. -/
import Derived.Test.YtahdilehajdhgaaGreatT73
open Go.Sak.Config renaming mk→E3
open Go.Sak.Event renaming mk→D7
open Int renaming lt_irrefl→O5,natCast_zero→F1,reduceLT→H7,toNat_natCast→E0,toNat_zero→H1
open List renaming eq_nil_of_length_eq_zero→K0,length_map→G7,reduceReplicate→D1,take_length→N6,take_of_length_le→F3
open Nat renaming le_of_ble_eq_true→M4,le_refl→G1,lt_or_eq_of_le→O9,reduceAdd→D4,reduceBEq→E1,reduceEqDiff→D0,reduceLT→E2,reduceLeDiff→D3,reduceMul→D6,reduceSub→D5
open Go.Sak.State renaming mk→E4
open Go.Sak.Word renaming mk→E8
namespace Go.Sak
open Go Go.RowKit Go.Proofs
set_option linter.unusedVariables false
set_option linter.unusedSimpArgs false
set_option maxRecDepth 10000
set_option maxHeartbeats 8000000
def wT (s:State) (l:List Int):List Thread:=(oV s l).threads
theorem rK:∀ (l:List Int) (s:State),oV s l=⟨s.cfg,s.word,s.slots,s.sends,s.recvs,s.full,s.empty,s.now,wT s l,s.log⟩
  | [],s=>rfl
  | x :: l,s=>by
    have:=rK l (cM s x)
    rw [gQ,fH,eF,eE,eD,fG,eC,gS,gR] at this
    exact this
theorem HE {s:State} {l:List Int} {k:Nat} (hk:k<l.length):(cM ⟨s.cfg,s.word,s.slots,s.sends,s.recvs,s.full,s.empty,s.now,wT s (l.take k),s.log⟩ (l.getD k default)).threads=wT s (l.take (k+1)):=by
  rw [← rK,Zi hk]
  unfold wT oV
  rw [List.foldl_append]; rfl
theorem Dc {s:State}:∀ (l:List Int) (s:State),(wT s l).length=s.threads.length
  | [],s=>rfl
  | x :: l,s=>(Dc (s:=s) l (cM s x)).trans Tf
theorem RG {aW aV : Int} {aN aX:Int} {aG aO:Int} {aA:Bool} {bT bV bU:Int} {aB:List Slot} {aD aC:List Int} {aZ:Int} {aT:List Int} {bA:Int} {aU:List Int} {aL:Int} {aE:List Thread} {aK:List Entry} {id ep:Int} {ln l:List Int} (h1:aB.length≤100000000) (h2:aD.length≤100000000) (h3:aC.length≤100000000) (h4:aT.length≤100000000) (h5:aU.length≤100000000) (h6:aE.length≤100000000) (h7:aK.length≤100000000) (hne:aE≠[]) (hE:dH ⟨aZ,aT⟩=(⟨ep,ln⟩,l)) (hln:ln.length≤100000000) (hll:l.length≤100000000) {M:AM} {κ:Ef→Prop}
    (hM:jY M (reachM M (fA 1 (jL [.ptr 97 0 0,.ptr 97 0 13]) []))=[(97,.rows 231 21 [[.int .i64 aW,.int .i64 aV,.int .i64 aN,.int .i64 aX,.int .i64 aG,.int .i64 aO,.bool aA,.int .i64 bT,.int .i64 bV,.int .i64 bU,.slv 2 (aB.map cU),.slv 1 (aD.map aS),.slv 1 (aC.map aS),.int .i64 aZ,.slv 1 (aT.map aS),.int .i64 bA,.slv 1 (aU.map aS),.int .i64 aL,.slm 49 aE.length,.slv 5 (aK.map cO),.int .i64 id]]),(49,.rows 42 11 (aE.map bH))])
    (h8:l=[]→κ (.tup [],[(97,none),(49,none)] ++ [(97,.rows 231 21 [[.int .i64 aW,.int .i64 aV,.int .i64 aN,.int .i64 aX,.int .i64 aG,.int .i64 aO,.bool aA,.int .i64 bT,.int .i64 bV,.int .i64 bU,.slv 2 (aB.map cU),.slv 1 (aD.map aS),.slv 1 (aC.map aS),.int .i64 ep,.slv 1 (ln.map aS),.int .i64 bA,.slv 1 (aU.map aS),.int .i64 aL,.slm 49 aE.length,.slv 5 (aK.map cO),.int .i64 id]]),(49,.rows 42 11 (aE.map bH))].map (fun p=>(p.1,some p.2)),[97,49]))
    (h9:l≠[]→κ (.tup [],[(97,none),(49,none)] ++ [(97,.rows 231 21 [[.int .i64 aW,.int .i64 aV,.int .i64 aN,.int .i64 aX,.int .i64 aG,.int .i64 aO,.bool aA,.int .i64 bT,.int .i64 bV,.int .i64 bU,.slv 2 (aB.map cU),.slv 1 (aD.map aS),.slv 1 (aC.map aS),.int .i64 ep,.slv 1 (ln.map aS),.int .i64 bA,.slv 1 (aU.map aS),.int .i64 aL,.slm 417 aE.length,.slv 5 (aK.map cO),.int .i64 id]]),(417,.rows 42 11 ((wT (E4 (E3 aW aV aN aX aG aO aA) (E8 bT bV bU) aB aD aC (D7 ep ln) (D7 bA aU) aL aE aK) l).map bH))].map (fun p=>(p.1,some p.2)),[97,49])):AC Tryz.prog 242 [.ptr 97 0 0,.ptr 97 0 13] M 417 κ:=by
  by_cases hl:l=[]
  · have k:=h8 hl
    clear h8 h9
    refine AC.inlD bP AB (by simp [uC]) (by omega) hM (by simp -implicitDefEqProofs only [qA,bN,bD,bO,aJ,aP,qU,D1,D4,D5,D3,D0,D6,reduceIte,reduceCtorEq,qI,E2,E1]; first | done | exact rfl) (by simp -implicitDefEqProofs only [qA,bN,bD,bO,aJ,aP,qU,D1,D4,D5,D3,D0,D6,reduceIte,reduceCtorEq,qI,E2,E1]; first | done | exact rfl) (by simp -implicitDefEqProofs only [qA,bN,bD,bO,aJ,aP,qU,D1,D4,D5,D3,D0,D6,reduceIte,reduceCtorEq,qI,E2,E1]; first | done | exact rfl) ⟨[],[(97,.rows 231 21 [[.int .i64 aW,.int .i64 aV,.int .i64 aN,.int .i64 aX,.int .i64 aG,.int .i64 aO,.bool aA,.int .i64 bT,.int .i64 bV,.int .i64 bU,.slv 2 (aB.map cU),.slv 1 (aD.map aS),.slv 1 (aC.map aS),.int .i64 ep,.slv 1 (ln.map aS),.int .i64 bA,.slv 1 (aU.map aS),.int .i64 aL,.slm 49 aE.length,.slv 5 (aK.map cO),.int .i64 id]]),(49,.rows 42 11 (aE.map bH))] ++ [(529,.rows 29 2 [[.int .i64 ep,.slv 1 (ln.map aS)]])],705,?_,fun e he=>?_⟩
    · refine ⟨[],[],?_,?_,?_,?_⟩
      all_goals simp -implicitDefEqProofs only [qA,bN,bD,bO,aJ,aP,qU,D1,D4,D5,D3,D0,D6,reduceIte,reduceCtorEq,qI,E2,E1]
      all_goals first
        | done
        | exact k
        | skip
    · subst hl
      clear k hM
      repeat' with_reducible first|refine aQ (fun h=>?_) (fun h=>?_)|refine bB (fun h=>?_) (fun h=>?_)|refine aF (fun h=>?_) (fun h=>?_)|refine aH (fun h=>?_) (fun h=>?_)|refine FN ?_ ?_ ?_ ?_ rfl ?_|refine aR ?_ ?_|refine bC ?_ ?_|refine bM ?_ ?_|refine IA ?_ ?_ ?_|refine L1 ?_ ?_|refine L2 ?_ ?_|refine L3 ?_ ?_ ?_ ?_|refine L4 ?_ ?_|refine L5 ?_ ?_ ?_ ?_ ?_|refine L6 ?_ ?_ ?_ ?_ ?_|refine P0 (Fy ?_) ?_ ?_ ?_|refine kS 1 ?_ ?_|refine And.intro (M4 rfl) ?_|simp -implicitDefEqProofs only [uC,qA,bN,bD,bO,aJ,aP,qU,D1,D4,D5,D3,D0,D6,reduceIte,reduceCtorEq,qI,E2,E1,cL,E0,bH,dO,aS,dM,hE,O5,H1,H7,bS,cJ,cY,F1, *]
      all_goals first
        | exact he
        | skip
  · have k := h9 hl
    clear h8 h9
    refine AC.inlD bP AB (by simp [uC]) (by omega) hM (by simp -implicitDefEqProofs only [qA,bN,bD,bO,aJ,aP,qU,D1,D4,D5,D3,D0,D6,reduceIte,reduceCtorEq,qI,E2,E1]; first | done | exact rfl) (by simp -implicitDefEqProofs only [qA,bN,bD,bO,aJ,aP,qU,D1,D4,D5,D3,D0,D6,reduceIte,reduceCtorEq,qI,E2,E1]; first | done | exact rfl) (by simp -implicitDefEqProofs only [qA,bN,bD,bO,aJ,aP,qU,D1,D4,D5,D3,D0,D6,reduceIte,reduceCtorEq,qI,E2,E1]; first | done | exact rfl) ⟨[],[(97,.rows 231 21 [[.int .i64 aW,.int .i64 aV,.int .i64 aN,.int .i64 aX,.int .i64 aG,.int .i64 aO,.bool aA,.int .i64 bT,.int .i64 bV,.int .i64 bU,.slv 2 (aB.map cU),.slv 1 (aD.map aS),.slv 1 (aC.map aS),.int .i64 ep,.slv 1 (ln.map aS),.int .i64 bA,.slv 1 (aU.map aS),.int .i64 aL,.slm 417 aE.length,.slv 5 (aK.map cO),.int .i64 id]]),(417,.rows 42 11 ((wT (E4 (E3 aW aV aN aX aG aO aA) (E8 bT bV bU) aB aD aC (D7 ep ln) (D7 bA aU) aL aE aK) l).map bH))],436,?_,fun e he=>?_⟩
    · refine ⟨[],[(417,417)],?_,?_,?_,?_⟩
      all_goals simp -implicitDefEqProofs only [qA,bN,bD,bO,aJ,aP,qU,D1,D4,D5,D3,D0,D6,reduceIte,reduceCtorEq,qI,E2,E1]
      all_goals first
        | done
        | exact k
        | skip
    · have hpos : 0<l.length:=List.length_pos_iff.2 hl
      clear k hM
      repeat' with_reducible first|refine aQ (fun h=>?_) (fun h=>?_)|refine bB (fun h=>?_) (fun h=>?_)|refine aF (fun h=>?_) (fun h=>?_)|refine aH (fun h=>?_) (fun h=>?_)|refine FN ?_ ?_ ?_ ?_ rfl ?_|refine aR ?_ ?_|refine bC ?_ ?_|refine bM ?_ ?_|refine IA ?_ ?_ ?_|refine L1 ?_ ?_|refine L2 ?_ ?_|refine L3 ?_ ?_ ?_ ?_|refine L4 ?_ ?_|refine L5 ?_ ?_ ?_ ?_ ?_|refine L6 ?_ ?_ ?_ ?_ ?_|refine P0 (Fy ?_) ?_ ?_ ?_|simp -implicitDefEqProofs only [uC,qA,bN,bD,bO,aJ,aP,qU,D1,D4,D5,D3,D0,D6,reduceIte,reduceCtorEq,qI,E2,E1,cL,E0,bH,dO,aS,dM,hE,O5,H1,H7,bS,cJ,cY,F1, *]
      all_goals first
        | refine oN 420 (fun i:Nat=>some (.ptr 97 0 0) :: nl 17 (some (.slv 1 (l.map aS)) :: some (.int .i64 l.length) :: some (.int .i64 i) :: nl 13 [])) (fun i=>if i=0 then [(97,.rows 231 21 [[.int .i64 aW,.int .i64 aV,.int .i64 aN,.int .i64 aX,.int .i64 aG,.int .i64 aO,.bool aA,.int .i64 bT,.int .i64 bV,.int .i64 bU,.slv 2 (aB.map cU),.slv 1 (aD.map aS),.slv 1 (aC.map aS),.int .i64 ep,.slv 1 (ln.map aS),.int .i64 bA,.slv 1 (aU.map aS),.int .i64 aL,.slm 49 aE.length,.slv 5 (aK.map cO),.int .i64 id]]),(49,.rows 42 11 (aE.map bH))] else [(97,.rows 231 21 [[.int .i64 aW,.int .i64 aV,.int .i64 aN,.int .i64 aX,.int .i64 aG,.int .i64 aO,.bool aA,.int .i64 bT,.int .i64 bV,.int .i64 bU,.slv 2 (aB.map cU),.slv 1 (aD.map aS),.slv 1 (aC.map aS),.int .i64 ep,.slv 1 (ln.map aS),.int .i64 bA,.slv 1 (aU.map aS),.int .i64 aL,.slm 417 aE.length,.slv 5 (aK.map cO),.int .i64 id]]),(417,.rows 42 11 ((wT (E4 (E3 aW aV aN aX aG aO aA) (E8 bT bV bU) aB aD aC (D7 ep ln) (D7 bA aU) aL aE aK) (l.take i)).map bH))]) (fun i=>i≤l.length) (fun i=>l.length - i) [] [] 0 (by omega) ?_ ?_ ?_ ?_ ?_ ?_
        | skip
      rotate_right
      · intro i hi
        simp only [dL,dK,all_nil,dI,dJ]
        intros
        by_cases h0:i=0
        · subst h0
          have hd:((0:Int)<(l.length:Int))=True:=by simp; omega
          have hS:(cM (E4 (E3 aW aV aN aX aG aO aA) (E8 bT bV bU) aB aD aC (D7 ep ln) (D7 bA aU) aL aE aK) (l.getD 0 default)).threads=wT (E4 (E3 aW aV aN aX aG aO aA) (E8 bT bV bU) aB aD aC (D7 ep ln) (D7 bA aU) aL aE aK) (l.take 1):=HE (s:=(E4 (E3 aW aV aN aX aG aO aA) (E8 bT bV bU) aB aD aC (D7 ep ln) (D7 bA aU) aL aE aK)) (k:=0) hpos
          simp -implicitDefEqProofs only [if_true]
          repeat' with_reducible first|refine aQ (fun h=>?_) (fun h=>?_)|refine bB (fun h=>?_) (fun h=>?_)|refine aF (fun h=>?_) (fun h=>?_)|refine aH (fun h=>?_) (fun h=>?_)|refine FN ?_ ?_ ?_ ?_ rfl ?_|refine aR ?_ ?_|refine bC ?_ ?_|refine bM ?_ ?_|refine IA ?_ ?_ ?_|refine L1 ?_ ?_|refine L2 ?_ ?_|refine L3 ?_ ?_ ?_ ?_|refine L4 ?_ ?_|refine L5 ?_ ?_ ?_ ?_ ?_|refine L6 ?_ ?_ ?_ ?_ ?_|refine GN 41 ?_ ?_ ?_|refine ACN.of (qH ?_ ?_ ?_ ?_ ?_ ?_ ?_ ?_) ?_|refine eK (d:=default) ?_ ?_|refine gV [] [(580,417)] 1 ?_ ?_ ?_ ?_ ?_ ?_|simp -implicitDefEqProofs only [uC,qA,bN,bD,bO,aJ,aP,qU,D1,D4,D5,D3,D0,D6,reduceIte,reduceCtorEq,qI,E2,E1,cL,E0,bH,dO,aS,dM,hE,O5,H1,H7,bS,cJ,cY,F1, *]
          all_goals first
            | omega
            | (constructor <;> omega)
            | exact ⟨by omega,by omega⟩
            | (simp; done)
            | (rw [bL (by omega) (by omega)]; omega)
            | exact bL (by omega) (by omega)
            | skip
        · rcases O9 hi with hlt | heq
          · have hd:((i:Int)<(l.length:Int))=True:=by simp; omega
            have hwl:=@Dc (E4 (E3 aW aV aN aX aG aO aA) (E8 bT bV bU) aB aD aC (D7 ep ln) (D7 bA aU) aL aE aK) (l.take i) (E4 (E3 aW aV aN aX aG aO aA) (E8 bT bV bU) aB aD aC (D7 ep ln) (D7 bA aU) aL aE aK)
            have hS:=HE (s:=(E4 (E3 aW aV aN aX aG aO aA) (E8 bT bV bU) aB aD aC (D7 ep ln) (D7 bA aU) aL aE aK)) hlt
            simp only [] at hS hwl
            have hT:((wT (E4 (E3 aW aV aN aX aG aO aA) (E8 bT bV bU) aB aD aC (D7 ep ln) (D7 bA aU) aL aE aK) (l.take i)).map bH).take aE.length=(wT (E4 (E3 aW aV aN aX aG aO aA) (E8 bT bV bU) aB aD aC (D7 ep ln) (D7 bA aU) aL aE aK) (l.take i)).map bH:=F3 (by rw [G7,hwl]; exact G1 _)
            have hW0:wT (E4 (E3 aW aV aN aX aG aO aA) (E8 bT bV bU) aB aD aC (D7 ep ln) (D7 bA aU) aL aE aK) (l.take i)≠[]:=by intro e; rw [e] at hwl; exact hne (K0 hwl.symm)
            have hwl2:(wT (E4 (E3 aW aV aN aX aG aO aA) (E8 bT bV bU) aB aD aC (D7 ep ln) (D7 bA aU) aL aE aK) (l.take i)).length≤100000000:=by omega
            have hwl3:aE.length≤(wT (E4 (E3 aW aV aN aX aG aO aA) (E8 bT bV bU) aB aD aC (D7 ep ln) (D7 bA aU) aL aE aK) (l.take i)).length:=by omega
            have hwl4:(0:Int)=0→(wT (E4 (E3 aW aV aN aX aG aO aA) (E8 bT bV bU) aB aD aC (D7 ep ln) (D7 bA aU) aL aE aK) (l.take i)).length=aE.length:=fun _=>hwl
            clear hwl
            simp -implicitDefEqProofs only [if_neg h0]
            repeat' with_reducible first|refine aQ (fun h=>?_) (fun h=>?_)|refine bB (fun h=>?_) (fun h=>?_)|refine aF (fun h=>?_) (fun h=>?_)|refine aH (fun h=>?_) (fun h=>?_)|refine FN ?_ ?_ ?_ ?_ rfl ?_|refine aR ?_ ?_|refine bC ?_ ?_|refine bM ?_ ?_|refine IA ?_ ?_ ?_|refine L1 ?_ ?_|refine L2 ?_ ?_|refine L3 ?_ ?_ ?_ ?_|refine L4 ?_ ?_|refine L5 ?_ ?_ ?_ ?_ ?_|refine L6 ?_ ?_ ?_ ?_ ?_|refine GN 41 ?_ ?_ ?_|refine ACN.of (qH ?_ ?_ ?_ ?_ ?_ ?_ ?_ ?_) ?_|refine eK (d:=default) ?_ ?_|refine gV [] [(580,417)] (i+1) ?_ ?_ ?_ ?_ ?_ ?_|simp -implicitDefEqProofs only [uC,qA,bN,bD,bO,aJ,aP,qU,D1,D4,D5,D3,D0,D6,reduceIte,reduceCtorEq,qI,E2,E1,cL,E0,bH,dO,aS,dM,hE,O5,H1,H7,bS,cJ,cY,F1, *]
            all_goals first
              | omega
              | (constructor <;> omega)
              | exact ⟨by omega,by omega⟩
              | (simp; done)
              | (rw [bL (by omega) (by omega)]; omega)
              | exact bL (by omega) (by omega)
              | (rw [hwl4 rfl]; done)
              | skip
          · have hd:((i:Int)<(l.length:Int))=False:=by simp; omega
            have hg:_root_.id (i=l.length):=heq
            clear heq
            simp -implicitDefEqProofs only [if_neg h0]
            repeat' with_reducible first|refine aQ (fun h=>?_) (fun h=>?_)|refine bB (fun h=>?_) (fun h=>?_)|refine aF (fun h=>?_) (fun h=>?_)|refine aH (fun h=>?_) (fun h=>?_)|refine FN ?_ ?_ ?_ ?_ rfl ?_|refine aR ?_ ?_|refine bC ?_ ?_|refine bM ?_ ?_|refine IA ?_ ?_ ?_|refine L1 ?_ ?_|refine L2 ?_ ?_|refine L3 ?_ ?_ ?_ ?_|refine L4 ?_ ?_|refine L5 ?_ ?_ ?_ ?_ ?_|refine L6 ?_ ?_ ?_ ?_ ?_|refine GN 41 ?_ ?_ ?_|refine ACN.of (qH ?_ ?_ ?_ ?_ ?_ ?_ ?_ ?_) ?_|refine eK (d:=default) ?_ ?_|refine gV [] [(580,417)] (i+1) ?_ ?_ ?_ ?_ ?_ ?_|simp -implicitDefEqProofs only [uC,qA,bN,bD,bO,aJ,aP,qU,D1,D4,D5,D3,D0,D6,reduceIte,reduceCtorEq,qI,E2,E1,cL,E0,bH,dO,aS,dM,hE,O5,H1,H7,bS,cJ,cY,F1, *]
            all_goals first
              | (obtain rfl:i=l.length:=hg
                 rw [N6]
                 exact he)
              | skip
      all_goals first
        | omega
        | (simp -implicitDefEqProofs only [qA,bN,bD,bO,aJ,aP,qU,D1,D4,D5,D3,D0,D6,reduceIte,reduceCtorEq,qI,E2,E1,dI,dJ]; first | done | rfl | (simp; done))
        | skip

theorem RF {aW aV : Int} {aN aX:Int} {aG aO:Int} {aA:Bool} {bT bV bU:Int} {aB:List Slot} {aD aC:List Int} {aZ:Int} {aT:List Int} {bA:Int} {aU:List Int} {aL:Int} {aE:List Thread} {aK:List Entry} {id ep:Int} {ln l:List Int} (h1:aB.length≤100000000) (h2:aD.length≤100000000) (h3:aC.length≤100000000) (h4:aT.length≤100000000) (h5:aU.length≤100000000) (h6:aE.length≤100000000) (h7:aK.length≤100000000) (hne:aE≠[]) (hE:dH ⟨bA,aU⟩=(⟨ep,ln⟩,l)) (hln:ln.length≤100000000) (hll:l.length≤100000000) {M:AM} {κ:Ef→Prop}
    (hM:jY M (reachM M (fA 1 (jL [.ptr 97 0 0,.ptr 97 0 15]) []))=[(97,.rows 231 21 [[.int .i64 aW,.int .i64 aV,.int .i64 aN,.int .i64 aX,.int .i64 aG,.int .i64 aO,.bool aA,.int .i64 bT,.int .i64 bV,.int .i64 bU,.slv 2 (aB.map cU),.slv 1 (aD.map aS),.slv 1 (aC.map aS),.int .i64 aZ,.slv 1 (aT.map aS),.int .i64 bA,.slv 1 (aU.map aS),.int .i64 aL,.slm 49 aE.length,.slv 5 (aK.map cO),.int .i64 id]]),(49,.rows 42 11 (aE.map bH))])
    (h8:l=[]→κ (.tup [],[(97,none),(49,none)] ++ [(97,.rows 231 21 [[.int .i64 aW,.int .i64 aV,.int .i64 aN,.int .i64 aX,.int .i64 aG,.int .i64 aO,.bool aA,.int .i64 bT,.int .i64 bV,.int .i64 bU,.slv 2 (aB.map cU),.slv 1 (aD.map aS),.slv 1 (aC.map aS),.int .i64 aZ,.slv 1 (aT.map aS),.int .i64 ep,.slv 1 (ln.map aS),.int .i64 aL,.slm 49 aE.length,.slv 5 (aK.map cO),.int .i64 id]]),(49,.rows 42 11 (aE.map bH))].map (fun p=>(p.1,some p.2)),[97,49]))
    (h9:l≠[]→κ (.tup [],[(97,none),(49,none)] ++ [(97,.rows 231 21 [[.int .i64 aW,.int .i64 aV,.int .i64 aN,.int .i64 aX,.int .i64 aG,.int .i64 aO,.bool aA,.int .i64 bT,.int .i64 bV,.int .i64 bU,.slv 2 (aB.map cU),.slv 1 (aD.map aS),.slv 1 (aC.map aS),.int .i64 aZ,.slv 1 (aT.map aS),.int .i64 ep,.slv 1 (ln.map aS),.int .i64 aL,.slm 417 aE.length,.slv 5 (aK.map cO),.int .i64 id]]),(417,.rows 42 11 ((wT (E4 (E3 aW aV aN aX aG aO aA) (E8 bT bV bU) aB aD aC (D7 aZ aT) (D7 ep ln) aL aE aK) l).map bH))].map (fun p=>(p.1,some p.2)),[97,49])):AC Tryz.prog 242 [.ptr 97 0 0,.ptr 97 0 15] M 417 κ:=by
  by_cases hl:l=[]
  · have k:=h8 hl
    clear h8 h9
    refine AC.inlD bP AB (by simp [uC]) (by omega) hM (by simp -implicitDefEqProofs only [qA,bN,bD,bO,aJ,aP,qU,D1,D4,D5,D3,D0,D6,reduceIte,reduceCtorEq,qI,E2,E1]; first | done | exact rfl) (by simp -implicitDefEqProofs only [qA,bN,bD,bO,aJ,aP,qU,D1,D4,D5,D3,D0,D6,reduceIte,reduceCtorEq,qI,E2,E1]; first | done | exact rfl) (by simp -implicitDefEqProofs only [qA,bN,bD,bO,aJ,aP,qU,D1,D4,D5,D3,D0,D6,reduceIte,reduceCtorEq,qI,E2,E1]; first | done | exact rfl) ⟨[],[(97,.rows 231 21 [[.int .i64 aW,.int .i64 aV,.int .i64 aN,.int .i64 aX,.int .i64 aG,.int .i64 aO,.bool aA,.int .i64 bT,.int .i64 bV,.int .i64 bU,.slv 2 (aB.map cU),.slv 1 (aD.map aS),.slv 1 (aC.map aS),.int .i64 aZ,.slv 1 (aT.map aS),.int .i64 ep,.slv 1 (ln.map aS),.int .i64 aL,.slm 49 aE.length,.slv 5 (aK.map cO),.int .i64 id]]),(49,.rows 42 11 (aE.map bH))] ++ [(529,.rows 29 2 [[.int .i64 ep,.slv 1 (ln.map aS)]])],705,?_,fun e he=>?_⟩
    · refine ⟨[],[],?_,?_,?_,?_⟩
      all_goals simp -implicitDefEqProofs only [qA,bN,bD,bO,aJ,aP,qU,D1,D4,D5,D3,D0,D6,reduceIte,reduceCtorEq,qI,E2,E1]
      all_goals first
        | done
        | exact k
        | skip
    · subst hl
      clear k hM
      repeat' with_reducible first|refine aQ (fun h=>?_) (fun h=>?_)|refine bB (fun h=>?_) (fun h=>?_)|refine aF (fun h=>?_) (fun h=>?_)|refine aH (fun h=>?_) (fun h=>?_)|refine FN ?_ ?_ ?_ ?_ rfl ?_|refine aR ?_ ?_|refine bC ?_ ?_|refine bM ?_ ?_|refine IA ?_ ?_ ?_|refine L1 ?_ ?_|refine L2 ?_ ?_|refine L3 ?_ ?_ ?_ ?_|refine L4 ?_ ?_|refine L5 ?_ ?_ ?_ ?_ ?_|refine L6 ?_ ?_ ?_ ?_ ?_|refine P0 (Fy ?_) ?_ ?_ ?_|refine kS 1 ?_ ?_|refine And.intro (M4 rfl) ?_|simp -implicitDefEqProofs only [uC,qA,bN,bD,bO,aJ,aP,qU,D1,D4,D5,D3,D0,D6,reduceIte,reduceCtorEq,qI,E2,E1,cL,E0,bH,dO,aS,dM,hE,O5,H1,H7,bS,cJ,cY,F1, *]
      all_goals first
        | exact he
        | skip
  · have k := h9 hl
    clear h8 h9
    refine AC.inlD bP AB (by simp [uC]) (by omega) hM (by simp -implicitDefEqProofs only [qA,bN,bD,bO,aJ,aP,qU,D1,D4,D5,D3,D0,D6,reduceIte,reduceCtorEq,qI,E2,E1]; first | done | exact rfl) (by simp -implicitDefEqProofs only [qA,bN,bD,bO,aJ,aP,qU,D1,D4,D5,D3,D0,D6,reduceIte,reduceCtorEq,qI,E2,E1]; first | done | exact rfl) (by simp -implicitDefEqProofs only [qA,bN,bD,bO,aJ,aP,qU,D1,D4,D5,D3,D0,D6,reduceIte,reduceCtorEq,qI,E2,E1]; first | done | exact rfl) ⟨[],[(97,.rows 231 21 [[.int .i64 aW,.int .i64 aV,.int .i64 aN,.int .i64 aX,.int .i64 aG,.int .i64 aO,.bool aA,.int .i64 bT,.int .i64 bV,.int .i64 bU,.slv 2 (aB.map cU),.slv 1 (aD.map aS),.slv 1 (aC.map aS),.int .i64 aZ,.slv 1 (aT.map aS),.int .i64 ep,.slv 1 (ln.map aS),.int .i64 aL,.slm 417 aE.length,.slv 5 (aK.map cO),.int .i64 id]]),(417,.rows 42 11 ((wT (E4 (E3 aW aV aN aX aG aO aA) (E8 bT bV bU) aB aD aC (D7 aZ aT) (D7 ep ln) aL aE aK) l).map bH))],436,?_,fun e he=>?_⟩
    · refine ⟨[],[(417,417)],?_,?_,?_,?_⟩
      all_goals simp -implicitDefEqProofs only [qA,bN,bD,bO,aJ,aP,qU,D1,D4,D5,D3,D0,D6,reduceIte,reduceCtorEq,qI,E2,E1]
      all_goals first
        | done
        | exact k
        | skip
    · have hpos : 0<l.length:=List.length_pos_iff.2 hl
      clear k hM
      repeat' with_reducible first|refine aQ (fun h=>?_) (fun h=>?_)|refine bB (fun h=>?_) (fun h=>?_)|refine aF (fun h=>?_) (fun h=>?_)|refine aH (fun h=>?_) (fun h=>?_)|refine FN ?_ ?_ ?_ ?_ rfl ?_|refine aR ?_ ?_|refine bC ?_ ?_|refine bM ?_ ?_|refine IA ?_ ?_ ?_|refine L1 ?_ ?_|refine L2 ?_ ?_|refine L3 ?_ ?_ ?_ ?_|refine L4 ?_ ?_|refine L5 ?_ ?_ ?_ ?_ ?_|refine L6 ?_ ?_ ?_ ?_ ?_|refine P0 (Fy ?_) ?_ ?_ ?_|simp -implicitDefEqProofs only [uC,qA,bN,bD,bO,aJ,aP,qU,D1,D4,D5,D3,D0,D6,reduceIte,reduceCtorEq,qI,E2,E1,cL,E0,bH,dO,aS,dM,hE,O5,H1,H7,bS,cJ,cY,F1, *]
      all_goals first
        | refine oN 420 (fun i:Nat=>some (.ptr 97 0 0) :: nl 17 (some (.slv 1 (l.map aS)) :: some (.int .i64 l.length) :: some (.int .i64 i) :: nl 13 [])) (fun i=>if i=0 then [(97,.rows 231 21 [[.int .i64 aW,.int .i64 aV,.int .i64 aN,.int .i64 aX,.int .i64 aG,.int .i64 aO,.bool aA,.int .i64 bT,.int .i64 bV,.int .i64 bU,.slv 2 (aB.map cU),.slv 1 (aD.map aS),.slv 1 (aC.map aS),.int .i64 aZ,.slv 1 (aT.map aS),.int .i64 ep,.slv 1 (ln.map aS),.int .i64 aL,.slm 49 aE.length,.slv 5 (aK.map cO),.int .i64 id]]),(49,.rows 42 11 (aE.map bH))] else [(97,.rows 231 21 [[.int .i64 aW,.int .i64 aV,.int .i64 aN,.int .i64 aX,.int .i64 aG,.int .i64 aO,.bool aA,.int .i64 bT,.int .i64 bV,.int .i64 bU,.slv 2 (aB.map cU),.slv 1 (aD.map aS),.slv 1 (aC.map aS),.int .i64 aZ,.slv 1 (aT.map aS),.int .i64 ep,.slv 1 (ln.map aS),.int .i64 aL,.slm 417 aE.length,.slv 5 (aK.map cO),.int .i64 id]]),(417,.rows 42 11 ((wT (E4 (E3 aW aV aN aX aG aO aA) (E8 bT bV bU) aB aD aC (D7 aZ aT) (D7 ep ln) aL aE aK) (l.take i)).map bH))]) (fun i=>i≤l.length) (fun i=>l.length - i) [] [] 0 (by omega) ?_ ?_ ?_ ?_ ?_ ?_
        | skip
      rotate_right
      · intro i hi
        simp only [dL,dK,all_nil,dI,dJ]
        intros
        by_cases h0:i=0
        · subst h0
          have hd:((0:Int)<(l.length:Int))=True:=by simp; omega
          have hS:(cM (E4 (E3 aW aV aN aX aG aO aA) (E8 bT bV bU) aB aD aC (D7 aZ aT) (D7 ep ln) aL aE aK) (l.getD 0 default)).threads=wT (E4 (E3 aW aV aN aX aG aO aA) (E8 bT bV bU) aB aD aC (D7 aZ aT) (D7 ep ln) aL aE aK) (l.take 1):=HE (s:=(E4 (E3 aW aV aN aX aG aO aA) (E8 bT bV bU) aB aD aC (D7 aZ aT) (D7 ep ln) aL aE aK)) (k:=0) hpos
          simp -implicitDefEqProofs only [if_true]
          repeat' with_reducible first|refine aQ (fun h=>?_) (fun h=>?_)|refine bB (fun h=>?_) (fun h=>?_)|refine aF (fun h=>?_) (fun h=>?_)|refine aH (fun h=>?_) (fun h=>?_)|refine FN ?_ ?_ ?_ ?_ rfl ?_|refine aR ?_ ?_|refine bC ?_ ?_|refine bM ?_ ?_|refine IA ?_ ?_ ?_|refine L1 ?_ ?_|refine L2 ?_ ?_|refine L3 ?_ ?_ ?_ ?_|refine L4 ?_ ?_|refine L5 ?_ ?_ ?_ ?_ ?_|refine L6 ?_ ?_ ?_ ?_ ?_|refine GN 41 ?_ ?_ ?_|refine ACN.of (qH ?_ ?_ ?_ ?_ ?_ ?_ ?_ ?_) ?_|refine eK (d:=default) ?_ ?_|refine gV [] [(580,417)] 1 ?_ ?_ ?_ ?_ ?_ ?_|simp -implicitDefEqProofs only [uC,qA,bN,bD,bO,aJ,aP,qU,D1,D4,D5,D3,D0,D6,reduceIte,reduceCtorEq,qI,E2,E1,cL,E0,bH,dO,aS,dM,hE,O5,H1,H7,bS,cJ,cY,F1, *]
          all_goals first
            | omega
            | (constructor <;> omega)
            | exact ⟨by omega,by omega⟩
            | (simp; done)
            | (rw [bL (by omega) (by omega)]; omega)
            | exact bL (by omega) (by omega)
            | skip
        · rcases O9 hi with hlt | heq
          · have hd:((i:Int)<(l.length:Int))=True:=by simp; omega
            have hwl:=@Dc (E4 (E3 aW aV aN aX aG aO aA) (E8 bT bV bU) aB aD aC (D7 aZ aT) (D7 ep ln) aL aE aK) (l.take i) (E4 (E3 aW aV aN aX aG aO aA) (E8 bT bV bU) aB aD aC (D7 aZ aT) (D7 ep ln) aL aE aK)
            have hS:=HE (s:=(E4 (E3 aW aV aN aX aG aO aA) (E8 bT bV bU) aB aD aC (D7 aZ aT) (D7 ep ln) aL aE aK)) hlt
            simp only [] at hS hwl
            have hT:((wT (E4 (E3 aW aV aN aX aG aO aA) (E8 bT bV bU) aB aD aC (D7 aZ aT) (D7 ep ln) aL aE aK) (l.take i)).map bH).take aE.length=(wT (E4 (E3 aW aV aN aX aG aO aA) (E8 bT bV bU) aB aD aC (D7 aZ aT) (D7 ep ln) aL aE aK) (l.take i)).map bH:=F3 (by rw [G7,hwl]; exact G1 _)
            have hW0:wT (E4 (E3 aW aV aN aX aG aO aA) (E8 bT bV bU) aB aD aC (D7 aZ aT) (D7 ep ln) aL aE aK) (l.take i)≠[]:=by intro e; rw [e] at hwl; exact hne (K0 hwl.symm)
            have hwl2:(wT (E4 (E3 aW aV aN aX aG aO aA) (E8 bT bV bU) aB aD aC (D7 aZ aT) (D7 ep ln) aL aE aK) (l.take i)).length≤100000000:=by omega
            have hwl3:aE.length≤(wT (E4 (E3 aW aV aN aX aG aO aA) (E8 bT bV bU) aB aD aC (D7 aZ aT) (D7 ep ln) aL aE aK) (l.take i)).length:=by omega
            have hwl4:(0:Int)=0→(wT (E4 (E3 aW aV aN aX aG aO aA) (E8 bT bV bU) aB aD aC (D7 aZ aT) (D7 ep ln) aL aE aK) (l.take i)).length=aE.length:=fun _=>hwl
            clear hwl
            simp -implicitDefEqProofs only [if_neg h0]
            repeat' with_reducible first|refine aQ (fun h=>?_) (fun h=>?_)|refine bB (fun h=>?_) (fun h=>?_)|refine aF (fun h=>?_) (fun h=>?_)|refine aH (fun h=>?_) (fun h=>?_)|refine FN ?_ ?_ ?_ ?_ rfl ?_|refine aR ?_ ?_|refine bC ?_ ?_|refine bM ?_ ?_|refine IA ?_ ?_ ?_|refine L1 ?_ ?_|refine L2 ?_ ?_|refine L3 ?_ ?_ ?_ ?_|refine L4 ?_ ?_|refine L5 ?_ ?_ ?_ ?_ ?_|refine L6 ?_ ?_ ?_ ?_ ?_|refine GN 41 ?_ ?_ ?_|refine ACN.of (qH ?_ ?_ ?_ ?_ ?_ ?_ ?_ ?_) ?_|refine eK (d:=default) ?_ ?_|refine gV [] [(580,417)] (i+1) ?_ ?_ ?_ ?_ ?_ ?_|simp -implicitDefEqProofs only [uC,qA,bN,bD,bO,aJ,aP,qU,D1,D4,D5,D3,D0,D6,reduceIte,reduceCtorEq,qI,E2,E1,cL,E0,bH,dO,aS,dM,hE,O5,H1,H7,bS,cJ,cY,F1, *]
            all_goals first
              | omega
              | (constructor <;> omega)
              | exact ⟨by omega,by omega⟩
              | (simp; done)
              | (rw [bL (by omega) (by omega)]; omega)
              | exact bL (by omega) (by omega)
              | (rw [hwl4 rfl]; done)
              | skip
          · have hd:((i:Int)<(l.length:Int))=False:=by simp; omega
            have hg:_root_.id (i=l.length):=heq
            clear heq
            simp -implicitDefEqProofs only [if_neg h0]
            repeat' with_reducible first|refine aQ (fun h=>?_) (fun h=>?_)|refine bB (fun h=>?_) (fun h=>?_)|refine aF (fun h=>?_) (fun h=>?_)|refine aH (fun h=>?_) (fun h=>?_)|refine FN ?_ ?_ ?_ ?_ rfl ?_|refine aR ?_ ?_|refine bC ?_ ?_|refine bM ?_ ?_|refine IA ?_ ?_ ?_|refine L1 ?_ ?_|refine L2 ?_ ?_|refine L3 ?_ ?_ ?_ ?_|refine L4 ?_ ?_|refine L5 ?_ ?_ ?_ ?_ ?_|refine L6 ?_ ?_ ?_ ?_ ?_|refine GN 41 ?_ ?_ ?_|refine ACN.of (qH ?_ ?_ ?_ ?_ ?_ ?_ ?_ ?_) ?_|refine eK (d:=default) ?_ ?_|refine gV [] [(580,417)] (i+1) ?_ ?_ ?_ ?_ ?_ ?_|simp -implicitDefEqProofs only [uC,qA,bN,bD,bO,aJ,aP,qU,D1,D4,D5,D3,D0,D6,reduceIte,reduceCtorEq,qI,E2,E1,cL,E0,bH,dO,aS,dM,hE,O5,H1,H7,bS,cJ,cY,F1, *]
            all_goals first
              | (obtain rfl:i=l.length:=hg
                 rw [N6]
                 exact he)
              | skip
      all_goals first
        | omega
        | (simp -implicitDefEqProofs only [qA,bN,bD,bO,aJ,aP,qU,D1,D4,D5,D3,D0,D6,reduceIte,reduceCtorEq,qI,E2,E1,dI,dJ]; first | done | rfl | (simp; done))
        | skip

end Go.Sak
