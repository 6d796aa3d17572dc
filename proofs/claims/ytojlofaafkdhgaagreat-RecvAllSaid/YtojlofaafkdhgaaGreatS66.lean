/- Part S66 of the proofs about the program: K67. Conditions: none. -/
import Derived.Test.YtojlofaafkdhgaaGreatS59
import Derived.Test.YtojlofaafkdhgaaGreatS46
import Derived.Test.YtojlofaafkdhgaaGreatS65
import Derived.Test.YtojlofaafkdhgaaGreatS04
import Derived.Test.YtojlofaafkdhgaaGreatProg
import Derived.KernelRfl
namespace Go.Sak
open Go Go.RowKit Go.Proofs
set_option linter.unusedVariables false
set_option linter.unusedSimpArgs false
set_option maxRecDepth 10000
set_option maxHeartbeats 8000000
def F13 : AFn := ⟨168, (.seq (.reg [o1 3 (.box 23 0), o1 6 (.mv (.const (.bool false)))]) (.seq (.reg [o1 24 (.call 39 []), o1 7 (.mv 24)]) (.seq (.reg [o1 26 (.ld 7 true 3), o1 27 (.call 46 [26, (ci 0)]), o1 25 (.mv 27), o1 28 (.ext 25 0), o1 29 (.ext 25 1), o1 8 (.alloc 33 [(.int .i64 0), (.int .i64 0), (.int .i64 0), (.int .i64 0), (.int .i64 0), (.int .i64 0), (.bool false), (.int .i64 0), (.int .i64 0), (.int .i64 0), .slnil, .slnil, .slnil, (.int .i64 0), .slnil, (.int .i64 0), .slnil, (.int .i64 0), .slnil, .slnil]), o2 (.st 20 8 28), o1 9 (.mv 29)]) (.seq (.seq (.reg [o1 30 (.mv 9), o1 31 (.not 30)]) (.cond 31 (.seq (.reg [o1 32 (.mv 7), o1 6 (.mv 32)]) .ret) .skip)) (.seq (.reg [o1 33 (.mv 1), o1 34 (.conv .i64 33), o1 35 (.faddr 10 8), o1 36 (.ld 1 false 35), o1 37 (.len 36), o1 38 (.bin .add 37 (ci 1)), o1 39 (.bin .rem 34 38), o1 10 (.mv 39)]) (.seq (.reg [o1 41 (.ld 7 true 3), o1 42 (.mv 10), o1 43 (.call 46 [41, 42]), o1 40 (.mv 43), o1 44 (.ext 40 0), o1 45 (.ext 40 1), o1 11 (.alloc 33 [(.int .i64 0), (.int .i64 0), (.int .i64 0), (.int .i64 0), (.int .i64 0), (.int .i64 0), (.bool false), (.int .i64 0), (.int .i64 0), (.int .i64 0), .slnil, .slnil, .slnil, (.int .i64 0), .slnil, (.int .i64 0), .slnil, (.int .i64 0), .slnil, .slnil]), o2 (.st 20 11 44), o1 12 (.mv 45)]) (.seq (.seq (.reg [o1 13 (.mv (ci 0))]) (.block 0 (.loop (.seq (.seq (.reg [o1 46 (.mv 13), o1 47 (.mv 10), o1 48 (.bin .lss 46 47)]) (.cond 48 .skip (.exit 0))) (.seq (.block 1 (.seq (.reg [o1 52 (.ld 20 true 11), o1 53 (.mv 2), o1 54 (.bin .rem 53 (.const (.int .u8 3))), o1 55 (.conv .i64 54), o1 56 (.bin .add (ci 4) 55), o1 57 (.call 34 [52, (ci 0), 56, (ci 0), (ci 0)]), o1 51 (.mv 57), o1 58 (.ext 51 0), o1 59 (.ext 51 1), o1 14 (.alloc 33 [(.int .i64 0), (.int .i64 0), (.int .i64 0), (.int .i64 0), (.int .i64 0), (.int .i64 0), (.bool false), (.int .i64 0), (.int .i64 0), (.int .i64 0), .slnil, .slnil, .slnil, (.int .i64 0), .slnil, (.int .i64 0), .slnil, (.int .i64 0), .slnil, .slnil]), o2 (.st 20 14 58), o1 15 (.mv 59)]) (.seq (.reg [o1 61 (.ld 20 true 14), o1 62 (.call 40 [61, (ci 0), (ci 100)]), o1 60 (.mv 62), o1 63 (.ext 60 0), o1 64 (.ext 60 1), o1 16 (.alloc 33 [(.int .i64 0), (.int .i64 0), (.int .i64 0), (.int .i64 0), (.int .i64 0), (.int .i64 0), (.bool false), (.int .i64 0), (.int .i64 0), (.int .i64 0), .slnil, .slnil, .slnil, (.int .i64 0), .slnil, (.int .i64 0), .slnil, (.int .i64 0), .slnil, .slnil]), o2 (.st 20 16 63), o1 17 (.mv 64)]) (.seq (.seq (.reg [o1 65 (.mv 15), o1 66 (.bin .neq 65 (ci 0)), o1 67 (.mv 66), o4 68 (.mv 17) 67, o4 69 (.bin .neq 68 (ci 7)) 67, o1 70 (.pick 67 (.const (.bool true)) 69), o1 71 (.mv 70), o4 72 (.faddr 18 16) 71, o4 73 (.ld 1 false 72) 71, o4 74 (.len 73) 71, o4 75 (.bin .lss 74 (ci 1)) 71, o1 76 (.pick 71 (.const (.bool true)) 75), o1 77 (.mv 76), o4 78 (.faddr 18 16) 77, o4 79 (.ld 1 false 78) 77, o4 80 (.iaddr 11 79 (ci 0)) 77, o4 81 (.faddr 9 80) 77, o4 82 (.ld 1 false 81) 77, o4 83 (.bin .neq 82 (ci 1)) 77, o1 84 (.pick 77 (.const (.bool true)) 83), o1 85 (.mv 84), o4 86 (.faddr 18 16) 85, o4 87 (.ld 1 false 86) 85, o4 88 (.iaddr 11 87 (ci 0)) 85, o4 89 (.faddr 10 88) 85, o4 90 (.ld 1 false 89) 85, o4 91 (.mv 13) 85, o4 92 (.bin .add (ci 10) 91) 85, o4 93 (.bin .neq 90 92) 85, o1 94 (.pick 85 (.const (.bool true)) 93)]) (.cond 94 (.seq (.reg [o1 6 (.mv (.const (.bool false)))]) .ret) .skip)) (.reg [o1 95 (.ld 20 true 16), o2 (.st 20 11 95)]))))) (.reg [o1 49 (.mv 13), o1 50 (.bin .add 49 (ci 1)), o1 13 (.mv 50)])))))) (.seq (.reg [o1 97 (.ld 20 true 11), o1 98 (.mv 2), o1 99 (.bin .rem 98 (.const (.int .u8 3))), o1 100 (.conv .i64 99), o1 101 (.bin .add (ci 4) 100), o1 102 (.call 34 [97, (ci 0), 101, (ci 0), (ci 0)]), o1 96 (.mv 102), o1 103 (.ext 96 0), o1 104 (.ext 96 1), o1 18 (.alloc 33 [(.int .i64 0), (.int .i64 0), (.int .i64 0), (.int .i64 0), (.int .i64 0), (.int .i64 0), (.bool false), (.int .i64 0), (.int .i64 0), (.int .i64 0), .slnil, .slnil, .slnil, (.int .i64 0), .slnil, (.int .i64 0), .slnil, (.int .i64 0), .slnil, .slnil]), o2 (.st 20 18 103), o1 19 (.mv 104)]) (.seq (.reg [o1 106 (.ld 20 true 18), o1 107 (.call 40 [106, (ci 0), (ci 100)]), o1 105 (.mv 107), o1 108 (.ext 105 0), o1 109 (.ext 105 1), o1 20 (.alloc 33 [(.int .i64 0), (.int .i64 0), (.int .i64 0), (.int .i64 0), (.int .i64 0), (.int .i64 0), (.bool false), (.int .i64 0), (.int .i64 0), (.int .i64 0), .slnil, .slnil, .slnil, (.int .i64 0), .slnil, (.int .i64 0), .slnil, (.int .i64 0), .slnil, .slnil]), o2 (.st 20 20 108), o1 21 (.mv 109)]) (.seq (.seq (.reg [o1 110 (.faddr 18 20), o1 111 (.ld 1 false 110), o1 112 (.len 111), o1 113 (.bin .lss 112 (ci 1))]) (.cond 113 (.seq (.reg [o1 6 (.mv (.const (.bool false)))]) .ret) .skip)) (.seq (.reg [o1 114 (.faddr 18 20), o1 115 (.ld 1 false 114), o1 116 (.iaddr 11 115 (ci 0)), o1 117 (.ld 11 true 116), o1 22 (.alloc 44 [(.int .i64 0), (.int .i64 0), (.int .i64 0), (.int .i64 0), (.int .i64 0), (.int .i64 0), (.int .i64 0), (.int .i64 0), (.bool false), (.int .i64 0), (.int .i64 0)]), o2 (.st 11 22 117)]) (.seq (.reg [o1 118 (.faddr 3 3), o1 119 (.ld 1 false 118), o1 120 (.bin .eql 119 (ci 3)), o1 121 (.mv 120), o4 122 (.faddr 3 3) 121, o4 123 (.ld 1 false 122) 121, o4 124 (.bin .eql 123 (ci 2)) 121, o1 125 (.pick 121 (.const (.bool true)) 124), o1 23 (.mv 125)]) (.seq (.seq (.reg [o1 126 (.mv 2), o1 127 (.bin .rem 126 (.const (.int .u8 3))), o1 128 (.bin .eql 127 (.const (.int .u8 1)))]) (.cond 128 (.seq (.reg [o1 129 (.mv 7), o1 130 (.mv 129), o3 131 (.faddr 9 22) 130, o3 132 (.ld 1 false 131) 130, o3 133 (.bin .eql 132 (ci 4)) 130, o1 134 (.pick 130 133 (.const (.bool false))), o1 135 (.mv 134), o3 136 (.mv 21) 135, o3 137 (.bin .eql 136 (ci 4)) 135, o1 138 (.pick 135 137 (.const (.bool false))), o1 6 (.mv 138)]) .ret) .skip)) (.seq (.reg [o1 139 (.mv 7), o1 140 (.mv 139), o3 141 (.faddr 9 22) 140, o3 142 (.ld 1 false (.tmp 141)) 140, o3 143 (.bin .eql (.tmp 142) (ci 0)) 140, o1 144 (.pick (.tmp 140) (.tmp 143) (.const (.bool false))), o1 145 (.mv (.tmp 144)), o3 146 (.mv 23) 145, o3 147 (.mv (.tmp 146)) 145, o3 148 (.faddr 0 22) 147, o3 149 (.ld 1 false (.tmp 148)) 147, o3 150 (.bin .eql (.tmp 149) (ci 2)) 147, o3 151 (.pick (.tmp 147) (.tmp 150) (.const (.bool false))) 145, o3 152 (.mv (.tmp 151)) 145, o3 153 (.faddr 15 20) 152, o3 154 (.faddr 1 (.tmp 153)) 152, o3 155 (.ld 1 false (.tmp 154)) 152, o3 156 (.len (.tmp 155)) 152, o3 157 (.bin .eql (.tmp 156) (ci 1)) 152, o3 158 (.pick (.tmp 152) (.tmp 157) (.const (.bool false))) 145, o3 159 (.mv (.tmp 158)) 145, o4 160 (.mv 23) 159, o4 161 (.not (.tmp 160)) 159, o4 162 (.mv (.tmp 161)) 159, o3 163 (.mv 21) 162, o3 164 (.bin .eql (.tmp 163) (ci 100)) 162, o4 165 (.pick (.tmp 162) (.tmp 164) (.const (.bool false))) 159, o3 166 (.pick (.tmp 159) (.const (.bool true)) (.tmp 165)) 145, o1 167 (.pick (.tmp 145) (.tmp 166) (.const (.bool false))), o1 6 (.mv (.tmp 167))]) .ret)))))))))))))), [(6, none)]⟩
theorem x13 : xf Tryz.prog 13 = some F13 := by kernel_rfl
theorem con46z {c : Config} (hok : confOk c = true) : Con Tryz.prog 46 [.agg (encC c), .int .i64 0] (.tup [.agg (encZ (fillS c 10 0)), .bool true], [], []) :=
  con46 (n := 0) hok (by have := room_of hok; simp; omega)
/-- sakialaw15.RecvAll -/
theorem con13 {c : Config} {many kind : Int} (hm : 0 ≤ many) (hk : 0 ≤ kind) : Con Tryz.prog 13 [.agg (encC c), .int .u8 many, .int .u8 kind] (.bool true, [], []) := by
  by_cases hok : confOk c = true
  · have hr := room_of hok
    obtain ⟨r, hrc⟩ : ∃ r : Nat, confRoom c = (r : Int) := ⟨(confRoom c).toNat, by omega⟩
    rw [hrc] at hr
    obtain ⟨n, hn⟩ : ∃ n : Nat, many.tmod ((r : Int) + 1) = (n : Int) := ⟨(many.tmod ((r : Int) + 1)).toNat, by have := Int.tmod_nonneg ((r : Int) + 1) hm; omega⟩
    have hnr : n ≤ r := by have := Int.tmod_lt_of_pos many (show (0 : Int) < (r : Int) + 1 by omega); omega
    have hsl : (fillS c 10 0).slots.length = r := by have := (fill_fab (b := 10) (n := 0) hok (by simp; omega)).len; simp only [show (fillS c 10 0).cfg = c from rfl] at this; omega
    have f0 := con46z hok
    have f1 := con46 (n := n) hok (by omega)
    have ho0 := out_fill (n := n) hok (by omega)
    have hb := fill_bd (b := 10) (n := n) hok (by omega)
    obtain ⟨K, hKg, hK3⟩ : ∃ K : Int, (∀ x : Int, x = kind.tmod 3 → 4 + x = K) ∧ (K = 4 ∨ K = 5 ∨ K = 6) := ⟨4 + kind.tmod 3, fun x e => by rw [e], by have := Int.tmod_nonneg 3 hk; have := Int.tmod_lt_of_pos kind (show (0 : Int) < 3 by decide); omega⟩
    have hk0 := Int.tmod_nonneg 3 hk
    have hk1 := Int.tmod_lt_of_pos kind (show (0 : Int) < 3 by decide)
    have hwk : IntKind.wrap .i64 (kind.tmod 3) = kind.tmod 3 := wrap64 (by omega) (by omega)
    have hwK : IntKind.wrap .i64 (4 + kind.tmod 3) = K := by rw [hKg _ rfl]; exact wrap64 (by omega) (by omega)
    have hw1 : IntKind.wrap .i64 ((r : Int) + 1) = (r : Int) + 1 := wrap64 (by omega) (by omega)
    have hz : ((r : Int) + 1 = 0) = False := by simp; omega
    refine mcb_of_vc mix x13 (by simp [F13]) fun hw _ => ?_
    simp only [wfs, AV.wf, inR_i64] at hw
    have hwm : IntKind.wrap .i64 many = many := by
      have h2 : inR .u8 many := hw.2.1
      unfold inR at h2
      rw [show IntKind.u8.max = 255 from by decide] at h2
      exact wrap64 (by omega) (by omega)
    clear hw
    clear hk0 hk1 hK3
    repeat' with_reducible first | refine gTn_of (fun h => ?_) (fun h => ?_) | refine gT_of (fun h => ?_) (fun h => ?_) | refine caseTn_of (fun h => ?_) (fun h => ?_) | refine caseT_of (fun h => ?_) (fun h => ?_) | refine FN ?_ ?_ ?_ ?_ rfl ?_ | refine kv_ifn ?_ ?_ | refine kv_if ?_ ?_ | refine k_if ?_ ?_ | refine IA ?_ ?_ ?_ | refine L1 ?_ ?_ | refine L2 ?_ ?_ | refine L3 ?_ ?_ ?_ ?_ | refine L4 ?_ ?_ | refine L5 ?_ ?_ ?_ ?_ ?_ | refine L6 ?_ ?_ ?_ ?_ ?_ | refine AC.p0 (con39 ) ?_ (by simp -implicitDefEqProofs only [qU, pure_encZ, pure_encQ, pure_encC]; done) ?_ ?_ | refine AC.p0 f0 ?_ (by simp -implicitDefEqProofs only [qU, pure_encZ, pure_encQ, pure_encC]; done) ?_ ?_ | refine AC.p0 f1 ?_ (by simp -implicitDefEqProofs only [qU, pure_encZ, pure_encQ, pure_encC]; done) ?_ ?_ | simp -implicitDefEqProofs only [F13, qA, ld_0, ld_pv, st_0, splice, doEqs, qU, List.reduceReplicate, Nat.reduceAdd, Nat.reduceSub, Nat.reduceLeDiff, Nat.reduceEqDiff, Nat.reduceMul, reduceIte, reduceCtorEq, qI, Nat.reduceLT, Nat.reduceBEq, up_s, Int.toNat_natCast, encT, qZ, nl_s, nl_0, qC, qT, qCf, doConv, Int.reduceEq, Int.reduceNe, Int.reduceLT, Int.reduceLE, Int.reduceToNat, lm_normal, lm_exit, lm_ret, Int.natCast_zero, *]
    all_goals first
      | (intro e; simp [hz] at e; done)
      | refine lm_of 5 (fun t : Nat × State => nl 2 (some (.int .u8 kind) :: some (.ptr 2 0 0) :: nl 3 (some (.bool true) :: nl 2 (some (.int .i64 n) :: some (.ptr 3 0 0) :: nl 1 (some (.int .i64 t.1) :: nl 154 []))))) (fun t => [(2, .rows 23 7 [encC c]), (3, .rows 33 20 [encZ t.2])]) (fun t => t.1 ≤ n ∧ Out c n t.1 t.2 ∧ Bd t.2 (5000 + 1000 * t.1)) (fun t => n - t.1) [] [(1, 2), (449, 3)] (0, fillS c 10 n) (by omega) ?_ ?_ ?_ ?_ ?_ ?_
      | trace_state
    rotate_right
    · rintro ⟨i, s⟩ ⟨hi, ho, hb⟩
      simp only [] at hi ho hb
      clear f0 f1 hn hwm hz hw1 hm hsl
      obtain ⟨hl, hth⟩ := out_len ho
      have hb0 : Bd s 100000000 := hb.mono (by omega)
      have hb1 : Bd (put1 s 0 (t0 K 0 0)) 10000000 := (bd_put1 hb).mono (by omega)
      have hK4 := hKg _ rfl
      have hK3 : K = 4 ∨ K = 5 ∨ K = 6 := by have := Int.tmod_nonneg 3 hk; have := Int.tmod_lt_of_pos kind (show (0 : Int) < 3 by decide); omega
      have e1 := (out_gv hok ho hK3).2
      have hct : (c.th < 1) = False := by
        have hcw := hok
        simp only [confOk, within, Bool.and_eq_true, decide_eq_true_eq] at hcw
        simp; omega
      rcases Nat.lt_or_eq_of_le hi with hlt | rfl
      · have hd : ((i : Int) < (n : Int)) = True := by simp; omega
        obtain ⟨Z, e2, z1, z2, z3⟩ := out_one hok ho hlt (by omega) hK3
        have hbz : Bd Z (5000 + 1000 * (i + 1)) := by
          have := bd_gSteps (id := 0) (n := 100) (bd_put1 (i := 0) (t := t0 K 0 0) hb)
          rw [e2] at this; exact this.mono (by omega)
        obtain ⟨zl, zth⟩ := out_len z1
        have hw10 : IntKind.wrap .i64 (10 + (i : Int)) = 10 + (i : Int) := wrap64 (by omega) (by omega)
        have hwi : IntKind.wrap .i64 ((i : Int) + 1) = ((i + 1 : Nat) : Int) := by rw [wrap64 (by omega) (by omega)]; omega
        clear hKg hK4 hK3 hl zl hrc hth
        simp (maxSteps := 1000000) only [all_some, all_none, all_nil, nl_s, nl_0]
        intros
        repeat' with_reducible first | refine gTn_of (fun h => ?_) (fun h => ?_) | refine gT_of (fun h => ?_) (fun h => ?_) | refine caseTn_of (fun h => ?_) (fun h => ?_) | refine caseT_of (fun h => ?_) (fun h => ?_) | refine FN ?_ ?_ ?_ ?_ rfl ?_ | refine kv_ifn ?_ ?_ | refine kv_if ?_ ?_ | refine k_if ?_ ?_ | refine IA ?_ ?_ ?_ | refine L1 ?_ ?_ | refine L2 ?_ ?_ | refine L3 ?_ ?_ ?_ ?_ | refine L4 ?_ ?_ | refine L5 ?_ ?_ ?_ ?_ ?_ | refine L6 ?_ ?_ ?_ ?_ ?_ | refine AC.p0 (con34s ?_) ?_ (by simp -implicitDefEqProofs only [qU, pure_encZ, pure_encQ, pure_encC]; done) ?_ ?_ | refine AC.p0 (con40 ?_) ?_ (by simp -implicitDefEqProofs only [qU, pure_encZ, pure_encQ, pure_encC]; done) ?_ ?_ | refine ia_of (d := default) ?_ ?_ | refine rm_of [] [(2, 2), (3, 3)] (i + 1, Z) ?_ ?_ ?_ ?_ ?_ ?_ | simp -implicitDefEqProofs only [F13, qA, ld_0, ld_pv, st_0, splice, doEqs, qU, List.reduceReplicate, Nat.reduceAdd, Nat.reduceSub, Nat.reduceLeDiff, Nat.reduceEqDiff, Nat.reduceMul, reduceIte, reduceCtorEq, qI, Nat.reduceLT, Nat.reduceBEq, up_s, Int.toNat_natCast, encT, qZ, nl_s, nl_0, qC, qT, qCf, doConv, Int.reduceEq, Int.reduceNe, Int.reduceLT, Int.reduceLE, Int.reduceToNat, lm_normal, lm_exit, lm_ret, Int.natCast_zero, *]
        all_goals first
          | exact hb0
          | exact hb1
          | omega
          | exact ⟨by omega, z1, hbz⟩
          | trace_state
      · have hd : ((i : Int) < (i : Int)) = False := by simp
        obtain ⟨Z, m, e2, z1, R1, R2⟩ := out_end hok ho hK3
        clear hl hrc hth
        by_cases hk5 : K = 5
        · obtain ⟨x1, rfl⟩ := R1 hk5
          clear R1 R2
          have hk1 : (kind.tmod 3 = 1) = True := by simp; omega
          clear hKg hK4 hK3 hk5
          simp (maxSteps := 1000000) only [all_some, all_none, all_nil, nl_s, nl_0]
          intros
          repeat' with_reducible first | refine gTn_of (fun h => ?_) (fun h => ?_) | refine gT_of (fun h => ?_) (fun h => ?_) | refine caseTn_of (fun h => ?_) (fun h => ?_) | refine caseT_of (fun h => ?_) (fun h => ?_) | refine FN ?_ ?_ ?_ ?_ rfl ?_ | refine kv_ifn ?_ ?_ | refine kv_if ?_ ?_ | refine k_if ?_ ?_ | refine IA ?_ ?_ ?_ | refine L1 ?_ ?_ | refine L2 ?_ ?_ | refine L3 ?_ ?_ ?_ ?_ | refine L4 ?_ ?_ | refine L5 ?_ ?_ ?_ ?_ ?_ | refine L6 ?_ ?_ ?_ ?_ ?_ | refine AC.p0 (con34s ?_) ?_ (by simp -implicitDefEqProofs only [qU, pure_encZ, pure_encQ, pure_encC]; done) ?_ ?_ | refine AC.p0 (con40 ?_) ?_ (by simp -implicitDefEqProofs only [qU, pure_encZ, pure_encQ, pure_encC]; done) ?_ ?_ | refine ia_of (d := default) ?_ ?_ | simp -implicitDefEqProofs only [F13, qA, ld_0, ld_pv, st_0, splice, doEqs, qU, List.reduceReplicate, Nat.reduceAdd, Nat.reduceSub, Nat.reduceLeDiff, Nat.reduceEqDiff, Nat.reduceMul, reduceIte, reduceCtorEq, qI, Nat.reduceLT, Nat.reduceBEq, up_s, Int.toNat_natCast, encT, qZ, nl_s, nl_0, qC, qT, qCf, doConv, Int.reduceEq, Int.reduceNe, Int.reduceLT, Int.reduceLE, Int.reduceToNat, lm_normal, lm_exit, lm_ret, Int.natCast_zero, *]
          all_goals first
            | exact hb0
            | exact hb1
            | exact Wk.refl _
            | omega
            | trace_state
        · obtain ⟨x1, x2, x3⟩ := R2 hk5
          clear R1 R2
          have hk1 : (kind.tmod 3 = 1) = False := by simp; omega
          clear hKg hK4 hK3 hk5
          by_cases hwt : c.wt = 3 ∨ c.wt = 2
          · obtain ⟨x4, x5⟩ := x2 hwt
            have x6 : (Z.empty.ln.length : Int) = 1 := by omega
            clear x2 x3 x5
            rcases hwt with hwt | hwt
            all_goals
              simp (maxSteps := 1000000) only [all_some, all_none, all_nil, nl_s, nl_0]
              intros
              repeat' with_reducible first | refine gTn_of (fun h => ?_) (fun h => ?_) | refine gT_of (fun h => ?_) (fun h => ?_) | refine caseTn_of (fun h => ?_) (fun h => ?_) | refine caseT_of (fun h => ?_) (fun h => ?_) | refine FN ?_ ?_ ?_ ?_ rfl ?_ | refine kv_ifn ?_ ?_ | refine kv_if ?_ ?_ | refine k_if ?_ ?_ | refine IA ?_ ?_ ?_ | refine L1 ?_ ?_ | refine L2 ?_ ?_ | refine L3 ?_ ?_ ?_ ?_ | refine L4 ?_ ?_ | refine L5 ?_ ?_ ?_ ?_ ?_ | refine L6 ?_ ?_ ?_ ?_ ?_ | refine AC.p0 (con34s ?_) ?_ (by simp -implicitDefEqProofs only [qU, pure_encZ, pure_encQ, pure_encC]; done) ?_ ?_ | refine AC.p0 (con40 ?_) ?_ (by simp -implicitDefEqProofs only [qU, pure_encZ, pure_encQ, pure_encC]; done) ?_ ?_ | refine ia_of (d := default) ?_ ?_ | simp -implicitDefEqProofs only [F13, qA, ld_0, ld_pv, st_0, splice, doEqs, qU, List.reduceReplicate, Nat.reduceAdd, Nat.reduceSub, Nat.reduceLeDiff, Nat.reduceEqDiff, Nat.reduceMul, reduceIte, reduceCtorEq, qI, Nat.reduceLT, Nat.reduceBEq, up_s, Int.toNat_natCast, encT, qZ, nl_s, nl_0, qC, qT, qCf, doConv, Int.reduceEq, Int.reduceNe, Int.reduceLT, Int.reduceLE, Int.reduceToNat, lm_normal, lm_exit, lm_ret, Int.natCast_zero, *]
              all_goals first
                | exact hb0
                | exact hb1
                | exact Wk.refl _
                | omega
                | trace_state
          · have x7 := x3 hwt
            subst x7
            clear x2 x3
            have hw3 : (c.wt = 3) = False := by simp; omega
            have hw2 : (c.wt = 2) = False := by simp; omega
            clear hwt
            simp (maxSteps := 1000000) only [all_some, all_none, all_nil, nl_s, nl_0]
            intros
            repeat' with_reducible first | refine gTn_of (fun h => ?_) (fun h => ?_) | refine gT_of (fun h => ?_) (fun h => ?_) | refine caseTn_of (fun h => ?_) (fun h => ?_) | refine caseT_of (fun h => ?_) (fun h => ?_) | refine FN ?_ ?_ ?_ ?_ rfl ?_ | refine kv_ifn ?_ ?_ | refine kv_if ?_ ?_ | refine k_if ?_ ?_ | refine IA ?_ ?_ ?_ | refine L1 ?_ ?_ | refine L2 ?_ ?_ | refine L3 ?_ ?_ ?_ ?_ | refine L4 ?_ ?_ | refine L5 ?_ ?_ ?_ ?_ ?_ | refine L6 ?_ ?_ ?_ ?_ ?_ | refine AC.p0 (con34s ?_) ?_ (by simp -implicitDefEqProofs only [qU, pure_encZ, pure_encQ, pure_encC]; done) ?_ ?_ | refine AC.p0 (con40 ?_) ?_ (by simp -implicitDefEqProofs only [qU, pure_encZ, pure_encQ, pure_encC]; done) ?_ ?_ | refine ia_of (d := default) ?_ ?_ | simp -implicitDefEqProofs only [F13, qA, ld_0, ld_pv, st_0, splice, doEqs, qU, List.reduceReplicate, Nat.reduceAdd, Nat.reduceSub, Nat.reduceLeDiff, Nat.reduceEqDiff, Nat.reduceMul, reduceIte, reduceCtorEq, qI, Nat.reduceLT, Nat.reduceBEq, up_s, Int.toNat_natCast, encT, qZ, nl_s, nl_0, qC, qT, qCf, doConv, Int.reduceEq, Int.reduceNe, Int.reduceLT, Int.reduceLE, Int.reduceToNat, lm_normal, lm_exit, lm_ret, Int.natCast_zero, *]
            all_goals first
              | exact hb0
              | exact hb1
              | exact Wk.refl _
              | omega
              | trace_state
    all_goals first
      | exact ⟨Nat.zero_le _, ho0, bdP hb (by omega)⟩
      | (simp (maxSteps := 1000000) -implicitDefEqProofs only [vc_skip, vc_ret, vc_exit, vc_seq, vc_block, vc_cond, vc_loop, vc_reg, vc_regT, r_nil, r_cons, r_consg, t_nil, t_cons, t_consg, nx, nt, g_bool, g_tup, gt_true, gt_false, ck_fn, th_normal, th_exit, th_ret, ib_normal, ib_exit, ib_ret, rt_normal, rt_ret, rs_some, rl_nil, rl_cons, rl_cell, one1_0, one1_1, one1_2, v_mv, v_ext, v_not, v_bin, v_eqb, v_eqs, v_eqn, v_conv, v_fld, v_build, v_tassert, v_mn, v_mx, v_faddr, v_aaddr, v_nilchk, v_iaddr, v_slc, v_len, v_app, v_cpy, v_ld, v_st, v_lkp, v_mupd, v_mdel, v_alloc, v_box, v_bslice, v_mkslice, v_mkfn, v_mkif, v_mkmap, v_call, v_callv, e_tmp, e_const, e_func, g_0, g_s, p_none, p_some, s_0, s_s, u_nil, u_some, u_none, m_get_nil, m_get_same, m_get, m_rep_nil, m_rep, m_del_nil, m_del, k_some, kv_some, lv_some, dynOk, apartN, List.reverse_cons, List.reverse_nil, Bool.not_not, Bool.and_false, Bool.false_and, List.mem_cons, List.not_mem_nil, or_false, bin_int, mn_int, mx_int, i_add, i_sub, i_mul, i_eql, i_neq, i_lss, i_leq, i_gtr, i_geq, i_rem, i_quo, ls_normal, ls_exit, ls_ret, len_enc, c_bool, c_true, c_false, v_pick, pk_true, pk_false, pk_bb, List.contains_cons, List.contains_nil, Bool.or_false, Bool.false_or, Bool.true_or, Bool.or_true, lf_ptr, lf_pv, lf_fn, fa_ptr, fa_pv, AV.cells, AV.one, doBox, ld_0, ld_pv, part, st_0, splice, doExt, doNot, doEqb, doEqs, kindOk, cellsEq, doBuild, fillA, doFld, Prod.mk.injEq, AV.int.injEq, AV.bool.injEq, AV.agg.injEq, AV.tup.injEq, List.cons.injEq, vwt_s, vwt_p, vwt_m, stt_s, stt_p, stt_m, frzS, frzP, doApp, rowsOf, ne_eq, not_true_eq_false, not_false_eq_true, vwP, vwS, zp_nil, zp_cons, pb_rows, puress, AV.pure, pures, AV.flat, flats, trs, AV.tr, mt_nil, mt_some, mt_none, Option.map_some, Option.map_none, Option.bind_some, Option.isSome_some, List.map_cons, List.map_nil, List.length_cons, List.length_nil, List.length_append, List.all_cons, List.all_nil, List.take_succ_cons, List.take_zero, List.take_nil, List.drop_succ_cons, List.drop_zero, List.drop_nil, List.getElem?_cons_zero, List.getElem?_cons_succ, List.cons_append, List.nil_append, List.append_nil, List.set_cons_zero, List.set_cons_succ, List.reduceReplicate, Bool.and_true, Bool.true_and, Bool.and_self, Bool.not_true, Bool.not_false, decide_true, decide_false, beq_true, beq_false, BEq.rfl, Nat.zero_add, Nat.add_zero, Nat.reduceAdd, Nat.reduceSub, Nat.reduceLeDiff, Nat.reduceEqDiff, Nat.le_refl, Nat.reduceMul, if_true, if_false, ite_true, ite_false, and_true, true_and, and_self, Bool.false_eq_true, reduceIte, reduceCtorEq, neg?, puress_map pure_encI, puress_map pure_encT, puress_map pure_encS, puress_map pure_encE, pure_encI, pure_encT, pure_encS, pure_encE, trss_enc _ pure_encI, trss_enc _ pure_encT, trss_enc _ pure_encS, trss_enc _ pure_encE, trs_pure _ _ (pure_encI _), trs_pure _ _ (pure_encT _), trs_pure _ _ (pure_encS _), trs_pure _ _ (pure_encE _), cond_true, cond_false, Bool.cond_true, Bool.cond_false, len_nil, len_slv, un_1, un_2, un_3, un_normal, un_exit, un_ret, take_maps, len_encS, len_encT, inlOk, inlU, AV.inN, ins_cons, ins_nil, inss_cons, inss_nil, ix_rows, nm_rows, nmss_cons, nmss_nil, nms_cons, nms_nil, AV.nms, autoR, pk_nil, pk_cons, on_nil, on_cons, nn_nil, nn_cons, stOk, stM, stT, nameT, lk, Blk.tr, AM.upd, AM.rep, AM.del, bt_rows, List.nodup_cons, List.nodup_nil, List.append_assoc, Nat.reduceLT, decide_eq_true_eq, Bool.and_eq_true, List.mem_singleton, List.any_cons, List.any_nil, Option.isSome_none, Option.getD_some, take_mapl, List.length_set, Nat.lt_irrefl, not_false_eq_true, trss, List.length_map, or_true, true_or, false_or, or_false, Nat.reduceBEq, List.length_replicate, Nat.reduceLT, doNilchk, true_and, and_true, inNss_enc pure_encI, inNss_enc pure_encT, inNss_enc pure_encS, inNss_enc pure_encE, nmsLL_enc pure_encI, nmsLL_enc pure_encT, nmsLL_enc pure_encS, nmsLL_enc pure_encE, len_encZ, take_encZ, drop_encZ, all_encZ, pure_encZ, inN_encZ, nms_encZ, trs_pure _ _ (pure_encZ _), splice, nl_s, nl_0, qCf]; first | done | (simp; done))
      | trace_state
  · have hc : ¬ confCheck c = 0 := by rw [confCheck_ok]; exact hok
    refine mcb_of_vc mix x13 (by simp [F13]) fun hw _ => ?_
    clear hw
    repeat' with_reducible first | refine gTn_of (fun h => ?_) (fun h => ?_) | refine gT_of (fun h => ?_) (fun h => ?_) | refine caseTn_of (fun h => ?_) (fun h => ?_) | refine caseT_of (fun h => ?_) (fun h => ?_) | refine FN ?_ ?_ ?_ ?_ rfl ?_ | refine kv_ifn ?_ ?_ | refine kv_if ?_ ?_ | refine k_if ?_ ?_ | refine IA ?_ ?_ ?_ | refine L1 ?_ ?_ | refine L2 ?_ ?_ | refine L3 ?_ ?_ ?_ ?_ | refine L4 ?_ ?_ | refine L5 ?_ ?_ ?_ ?_ ?_ | refine L6 ?_ ?_ ?_ ?_ ?_ | refine AC.p0 (con39 ) ?_ (by simp -implicitDefEqProofs only [qU, pure_encZ, pure_encQ, pure_encC]; done) ?_ ?_ | refine AC.p0 (con46x ?_) ?_ (by simp -implicitDefEqProofs only [qU, pure_encZ, pure_encQ, pure_encC]; done) ?_ ?_ | simp -implicitDefEqProofs only [F13, qA, ld_0, ld_pv, st_0, splice, doEqs, qU, List.reduceReplicate, Nat.reduceAdd, Nat.reduceSub, Nat.reduceLeDiff, Nat.reduceEqDiff, Nat.reduceMul, reduceIte, reduceCtorEq, qI, Nat.reduceLT, Nat.reduceBEq, up_s, Int.toNat_natCast, encT, qZ, nl_s, nl_0, qC, qT, qCf, doConv, Int.reduceEq, Int.reduceNe, Int.reduceLT, Int.reduceLE, Int.reduceToNat, lm_normal, lm_exit, lm_ret, Int.natCast_zero, *]
    all_goals first
      | exact hok
      | exact Wk.refl _
      | trace_state

end Go.Sak
