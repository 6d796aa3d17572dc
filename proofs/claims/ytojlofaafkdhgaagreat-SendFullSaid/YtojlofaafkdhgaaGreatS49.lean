/- Part S49 of the proofs about the program: K46. Conditions: none. -/
import Derived.Test.YtojlofaafkdhgaaGreatS46
import Derived.Test.YtojlofaafkdhgaaGreatS48
import Derived.Test.YtojlofaafkdhgaaGreatS04
import Derived.Test.YtojlofaafkdhgaaGreatProg
import Derived.KernelRfl
namespace Go.Sak
open Go Go.RowKit Go.Proofs
set_option linter.unusedVariables false
set_option linter.unusedSimpArgs false
set_option maxRecDepth 10000
set_option maxHeartbeats 8000000
def F7 : AFn := ⟨216, (.seq (.reg [o1 3 (.box 23 0), o1 6 (.mv (.const (.bool false)))]) (.seq (.reg [o1 24 (.call 21 []), o1 7 (.mv 24)]) (.seq (.reg [o1 26 (.ld 7 true 3), o1 27 (.call 33 [26]), o1 25 (.mv 27), o1 28 (.ext 25 0), o1 29 (.ext 25 1), o1 8 (.alloc 33 [(.int .i64 0), (.int .i64 0), (.int .i64 0), (.int .i64 0), (.int .i64 0), (.int .i64 0), (.bool false), (.int .i64 0), (.int .i64 0), (.int .i64 0), .slnil, .slnil, .slnil, (.int .i64 0), .slnil, (.int .i64 0), .slnil, (.int .i64 0), .slnil, .slnil]), o2 (.st 20 8 28), o1 9 (.mv 29)]) (.seq (.seq (.reg [o1 30 (.mv 9), o1 31 (.bin .neq 30 (ci 0))]) (.cond 31 (.seq (.reg [o1 32 (.mv 7), o1 6 (.mv 32)]) .ret) .skip)) (.seq (.reg [o1 33 (.faddr 10 8), o1 34 (.ld 1 false 33), o1 35 (.len 34), o1 10 (.mv 35)]) (.seq (.seq (.reg [o1 11 (.mv (ci 0))]) (.block 0 (.loop (.seq (.seq (.reg [o1 36 (.mv 11), o1 37 (.mv 10), o1 38 (.bin .lss 36 37)]) (.cond 38 .skip (.exit 0))) (.seq (.block 1 (.seq (.reg [o1 42 (.ld 20 true 8), o1 43 (.mv 11), o1 44 (.call 34 [42, (ci 0), (ci 1), 43, (ci 0)]), o1 41 (.mv 44), o1 45 (.ext 41 0), o1 46 (.ext 41 1), o1 12 (.alloc 33 [(.int .i64 0), (.int .i64 0), (.int .i64 0), (.int .i64 0), (.int .i64 0), (.int .i64 0), (.bool false), (.int .i64 0), (.int .i64 0), (.int .i64 0), .slnil, .slnil, .slnil, (.int .i64 0), .slnil, (.int .i64 0), .slnil, (.int .i64 0), .slnil, .slnil]), o2 (.st 20 12 45), o1 13 (.mv 46)]) (.seq (.reg [o1 48 (.ld 20 true 12), o1 49 (.call 23 [48, (ci 0), (ci 100)]), o1 47 (.mv 49), o1 50 (.ext 47 0), o1 51 (.ext 47 1), o1 14 (.alloc 33 [(.int .i64 0), (.int .i64 0), (.int .i64 0), (.int .i64 0), (.int .i64 0), (.int .i64 0), (.bool false), (.int .i64 0), (.int .i64 0), (.int .i64 0), .slnil, .slnil, .slnil, (.int .i64 0), .slnil, (.int .i64 0), .slnil, (.int .i64 0), .slnil, .slnil]), o2 (.st 20 14 50), o1 15 (.mv 51)]) (.reg [o1 52 (.ld 20 true 14), o2 (.st 20 8 52)])))) (.reg [o1 39 (.mv 11), o1 40 (.bin .add 39 (ci 1)), o1 11 (.mv 40)])))))) (.seq (.reg [o1 53 (.mv 2), o1 54 (.bin .rem 53 (.const (.int .u8 3))), o1 55 (.conv .i64 54), o1 56 (.bin .add (ci 1) 55), o1 16 (.mv 56)]) (.seq (.reg [o1 58 (.ld 20 true 8), o1 59 (.mv 16), o1 60 (.mv 1), o1 61 (.call 34 [58, (ci 0), 59, 60, (ci 0)]), o1 57 (.mv 61), o1 62 (.ext 57 0), o1 63 (.ext 57 1), o1 17 (.alloc 33 [(.int .i64 0), (.int .i64 0), (.int .i64 0), (.int .i64 0), (.int .i64 0), (.int .i64 0), (.bool false), (.int .i64 0), (.int .i64 0), (.int .i64 0), .slnil, .slnil, .slnil, (.int .i64 0), .slnil, (.int .i64 0), .slnil, (.int .i64 0), .slnil, .slnil]), o2 (.st 20 17 62), o1 18 (.mv 63)]) (.seq (.reg [o1 65 (.ld 20 true 17), o1 66 (.call 23 [65, (ci 0), (ci 100)]), o1 64 (.mv 66), o1 67 (.ext 64 0), o1 68 (.ext 64 1), o1 19 (.alloc 33 [(.int .i64 0), (.int .i64 0), (.int .i64 0), (.int .i64 0), (.int .i64 0), (.int .i64 0), (.bool false), (.int .i64 0), (.int .i64 0), (.int .i64 0), .slnil, .slnil, .slnil, (.int .i64 0), .slnil, (.int .i64 0), .slnil, (.int .i64 0), .slnil, .slnil]), o2 (.st 20 19 67), o1 20 (.mv 68)]) (.seq (.reg [o1 69 (.ld 20 true 19), o1 70 (.call 35 [69]), o1 21 (.alloc 54 [.slnil, (.int .i64 0), (.int .i64 0), (.int .i64 0)]), o2 (.st 4 21 70)]) (.seq (.seq (.reg [o1 71 (.faddr 18 19), o1 72 (.ld 1 false 71), o1 73 (.len 72), o1 74 (.bin .lss 73 (ci 1)), o1 75 (.mv 74), o4 76 (.faddr 0 21) 75, o4 77 (.ld 1 false 76) 75, o4 78 (.len 77) 75, o4 79 (.mv 10) 75, o4 80 (.bin .neq 78 79) 75, o1 81 (.pick 75 (.const (.bool true)) 80)]) (.cond 81 (.seq (.reg [o1 6 (.mv (.const (.bool false)))]) .ret) .skip)) (.seq (.reg [o1 82 (.faddr 18 19), o1 83 (.ld 1 false 82), o1 84 (.iaddr 11 83 (ci 0)), o1 85 (.ld 11 true 84), o1 22 (.alloc 44 [(.int .i64 0), (.int .i64 0), (.int .i64 0), (.int .i64 0), (.int .i64 0), (.int .i64 0), (.int .i64 0), (.int .i64 0), (.bool false), (.int .i64 0), (.int .i64 0)]), o2 (.st 11 22 85)]) (.seq (.block 2 (.seq (.reg [o1 87 (.faddr 2 3), o1 88 (.ld 1 false 87), o1 89 (.bin .eql 88 (ci 1)), o1 86 (.mv 89)]) (.cond 86 (.seq (.reg [o1 90 (.mv 7), o1 91 (.mv 90), o3 92 (.faddr 0 22) 91, o3 93 (.ld 1 false 92) 91, o3 94 (.bin .eql 93 (ci 0)) 91, o1 95 (.pick 91 94 (.const (.bool false))), o1 96 (.mv 95), o3 97 (.faddr 9 22) 96, o3 98 (.ld 1 false 97) 96, o3 99 (.bin .eql 98 (ci 3)) 96, o1 100 (.pick 96 99 (.const (.bool false))), o1 101 (.mv 100), o3 102 (.faddr 0 21) 101, o3 103 (.ld 1 false 102) 101, o3 104 (.iaddr 1 103 (ci 0)) 101, o3 105 (.ld 1 false 104) 101, o3 106 (.bin .eql 105 (ci 0)) 101, o1 107 (.pick 101 106 (.const (.bool false))), o1 108 (.mv 107), o3 109 (.mv 20) 108, o3 110 (.bin .eql 109 (ci 4)) 108, o1 111 (.pick 108 110 (.const (.bool false))), o1 6 (.mv 111)]) .ret) (.seq (.reg [o1 113 (.faddr 2 3), o1 114 (.ld 1 false 113), o1 115 (.bin .eql 114 (ci 2)), o1 112 (.mv 115)]) (.cond 112 (.seq (.reg [o1 116 (.mv 7), o1 117 (.mv 116), o3 118 (.faddr 0 22) 117, o3 119 (.ld 1 false 118) 117, o3 120 (.bin .eql 119 (ci 0)) 117, o1 121 (.pick 117 120 (.const (.bool false))), o1 122 (.mv 121), o3 123 (.faddr 9 22) 122, o3 124 (.ld 1 false 123) 122, o3 125 (.bin .eql 124 (ci 1)) 122, o1 126 (.pick 122 125 (.const (.bool false))), o1 127 (.mv 126), o3 128 (.faddr 0 21) 127, o3 129 (.ld 1 false 128) 127, o3 130 (.mv 10) 127, o3 131 (.bin .sub 130 (ci 1)) 127, o3 132 (.iaddr 1 129 131) 127, o3 133 (.ld 1 false 132) 127, o3 134 (.mv 1) 127, o3 135 (.bin .eql 133 134) 127, o1 136 (.pick 127 135 (.const (.bool false))), o1 137 (.mv 136), o3 138 (.mv 20) 137, o3 139 (.bin .eql 138 (ci 10)) 137, o1 140 (.pick 137 139 (.const (.bool false))), o1 141 (.mv (.tmp 140)), o3 142 (.faddr 19 19) 141, o3 143 (.ld 1 false (.tmp 142)) 141, o3 144 (.len (.tmp 143)) 141, o3 145 (.mv 10) 141, o3 146 (.bin .add (.tmp 145) (ci 2)) 141, o3 147 (.bin .eql (.tmp 144) (.tmp 146)) 141, o1 148 (.pick (.tmp 141) (.tmp 147) (.const (.bool false))), o1 6 (.mv (.tmp 148))]) .ret) (.seq (.reg [o1 150 (.mv 16), o1 151 (.bin .eql (.tmp 150) (ci 2)), o1 149 (.mv (.tmp 151))]) (.cond (.tmp 149) (.seq (.reg [o1 152 (.mv 7), o1 153 (.mv (.tmp 152)), o3 154 (.faddr 0 22) 153, o3 155 (.ld 1 false (.tmp 154)) 153, o3 156 (.bin .eql (.tmp 155) (ci 0)) 153, o1 157 (.pick (.tmp 153) (.tmp 156) (.const (.bool false))), o1 158 (.mv (.tmp 157)), o3 159 (.faddr 9 22) 158, o3 160 (.ld 1 false (.tmp 159)) 158, o3 161 (.bin .eql (.tmp 160) (ci 2)) 158, o1 162 (.pick (.tmp 158) (.tmp 161) (.const (.bool false))), o1 163 (.mv (.tmp 162)), o3 164 (.mv 20) 163, o3 165 (.bin .eql (.tmp 164) (ci 4)) 163, o1 166 (.pick (.tmp 163) (.tmp 165) (.const (.bool false))), o1 6 (.mv (.tmp 166))]) .ret) .skip))))))) (.seq (.reg [o1 167 (.faddr 3 3), o1 168 (.ld 1 false (.tmp 167)), o1 169 (.bin .eql (.tmp 168) (ci 3)), o1 170 (.mv (.tmp 169)), o4 171 (.faddr 3 3) 170, o4 172 (.ld 1 false (.tmp 171)) 170, o4 173 (.bin .eql (.tmp 172) (ci 2)) 170, o1 174 (.pick (.tmp 170) (.const (.bool true)) (.tmp 173)), o1 23 (.mv (.tmp 174))]) (.seq (.reg [o1 175 (.mv 7), o1 176 (.mv (.tmp 175)), o3 177 (.faddr 9 22) 176, o3 178 (.ld 1 false (.tmp 177)) 176, o3 179 (.bin .eql (.tmp 178) (ci 0)) 176, o1 180 (.pick (.tmp 176) (.tmp 179) (.const (.bool false))), o1 181 (.mv (.tmp 180)), o3 182 (.mv 23) 181, o3 183 (.mv (.tmp 182)) 181, o3 184 (.faddr 0 22) 183, o3 185 (.ld 1 false (.tmp 184)) 183, o3 186 (.bin .eql (.tmp 185) (ci 2)) 183, o3 187 (.pick (.tmp 183) (.tmp 186) (.const (.bool false))) 181, o3 188 (.mv (.tmp 187)) 181, o3 189 (.faddr 13 19) 188, o3 190 (.faddr 1 (.tmp 189)) 188, o3 191 (.ld 1 false (.tmp 190)) 188, o3 192 (.len (.tmp 191)) 188, o3 193 (.bin .eql (.tmp 192) (ci 1)) 188, o3 194 (.pick (.tmp 188) (.tmp 193) (.const (.bool false))) 181, o3 195 (.mv (.tmp 194)) 181, o4 196 (.mv 23) 195, o4 197 (.not (.tmp 196)) 195, o4 198 (.mv (.tmp 197)) 195, o3 199 (.faddr 0 22) 198, o3 200 (.ld 1 false (.tmp 199)) 198, o3 201 (.bin .eql (.tmp 200) (ci 1)) 198, o4 202 (.pick (.tmp 198) (.tmp 201) (.const (.bool false))) 195, o4 203 (.mv (.tmp 202)) 195, o3 204 (.mv 20) 203, o3 205 (.bin .eql (.tmp 204) (ci 100)) 203, o4 206 (.pick (.tmp 203) (.tmp 205) (.const (.bool false))) 195, o3 207 (.pick (.tmp 195) (.const (.bool true)) (.tmp 206)) 181, o1 208 (.pick (.tmp 181) (.tmp 207) (.const (.bool false))), o1 209 (.mv (.tmp 208)), o3 210 (.faddr 0 21) 209, o3 211 (.ld 1 false (.tmp 210)) 209, o3 212 (.iaddr 1 (.tmp 211) (ci 0)) 209, o3 213 (.ld 1 false (.tmp 212)) 209, o3 214 (.bin .eql (.tmp 213) (ci 0)) 209, o1 215 (.pick (.tmp 209) (.tmp 214) (.const (.bool false))), o1 6 (.mv (.tmp 215))]) .ret))))))))))))))), [(6, none)]⟩
theorem x7 : xf Tryz.prog 7 = some F7 := by kernel_rfl
theorem me_0 (Z : State) : me Z 0 = Z.threads.getD 0 default := rfl
/-- sakialaw14.SendFull -/
theorem con7 {c : Config} {val kind : Int} (hm : 0 ≤ kind) : Con Tryz.prog 7 [.agg (encC c), .int .i64 val, .int .u8 kind] (.bool true, [], []) := by
  by_cases hok : confOk c = true
  · have hr := room_of hok
    have hnew := fill_new (b := 0) hok
    have hb := fill_bd (b := 0) (n := 0) hok (by simp; omega)
    obtain ⟨r, hrc⟩ : ∃ r : Nat, (r : Int) = confRoom c := ⟨(confRoom c).toNat, by omega⟩
    have hsl : (fillS c 0 0).slots.length = r := by have := (fill_fab (b := 0) (n := 0) hok (by simp; omega)).len; simp only [show (fillS c 0 0).cfg = c from rfl] at this; omega
    obtain ⟨K, hK, hK3⟩ : ∃ K : Int, 1 + kind.tmod 3 = K ∧ (K = 1 ∨ K = 2 ∨ K = 3) := ⟨_, rfl, by have := Int.tmod_nonneg 3 hm; have := Int.tmod_lt_of_pos kind (show (0 : Int) < 3 by decide); omega⟩
    have hk0 := Int.tmod_nonneg 3 hm
    have hk1 := Int.tmod_lt_of_pos kind (show (0 : Int) < 3 by decide)
    have hwk : IntKind.wrap .i64 (kind.tmod 3) = kind.tmod 3 := wrap64 (by omega) (by omega)
    have hwK : IntKind.wrap .i64 (1 + kind.tmod 3) = K := by rw [hK]; exact wrap64 (by omega) (by omega)
    clear hK
    refine mcb_of_vc mix x7 (by simp [F7]) fun hw _ => ?_
    clear hw
    repeat' with_reducible first | refine gTn_of (fun h => ?_) (fun h => ?_) | refine gT_of (fun h => ?_) (fun h => ?_) | refine caseTn_of (fun h => ?_) (fun h => ?_) | refine caseT_of (fun h => ?_) (fun h => ?_) | refine FN ?_ ?_ ?_ ?_ rfl ?_ | refine kv_ifn ?_ ?_ | refine kv_if ?_ ?_ | refine k_if ?_ ?_ | refine IA ?_ ?_ ?_ | refine L1 ?_ ?_ | refine L2 ?_ ?_ | refine L3 ?_ ?_ ?_ ?_ | refine L4 ?_ ?_ | refine L5 ?_ ?_ ?_ ?_ ?_ | refine L6 ?_ ?_ ?_ ?_ ?_ | refine AC.p0 (con21 ) ?_ (by simp -implicitDefEqProofs only [qU, pure_encZ, pure_encQ, pure_encC]; done) ?_ ?_ | refine AC.p0 (con33s ) ?_ (by simp -implicitDefEqProofs only [qU, pure_encZ, pure_encQ, pure_encC]; done) ?_ ?_ | refine AC.p0 (con34s ?_) ?_ (by simp -implicitDefEqProofs only [qU, pure_encZ, pure_encQ, pure_encC]; done) ?_ ?_ | refine AC.p0 (con23 ?_) ?_ (by simp -implicitDefEqProofs only [qU, pure_encZ, pure_encQ, pure_encC]; done) ?_ ?_ | refine AC.p0 (con35s ?_) ?_ (by simp -implicitDefEqProofs only [qU, pure_encZ, pure_encQ, pure_encC]; done) ?_ ?_ | simp -implicitDefEqProofs only [F7, qA, ld_0, ld_pv, st_0, splice, doEqs, qU, List.reduceReplicate, Nat.reduceAdd, Nat.reduceSub, Nat.reduceLeDiff, Nat.reduceEqDiff, Nat.reduceMul, reduceIte, reduceCtorEq, qI, Nat.reduceLT, Nat.reduceBEq, up_s, Int.toNat_natCast, encT, qZ, nl_s, nl_0, qC, qT, qQ, qQ2, qCf, doConv, encI, Int.reduceEq, Int.reduceNe, Int.reduceLT, Int.reduceLE, Int.reduceToNat, lm_normal, lm_exit, lm_ret, Int.natCast_zero, *]
    all_goals first
      | exact bdP hb (by omega)
      | refine lm_of 5 (fun i : Nat => nl 1 (some (.int .i64 val) :: some (.int .u8 kind) :: some (.ptr 2 0 0) :: nl 3 (some (.bool true) :: some (.ptr 3 0 0) :: nl 1 (some (.int .i64 r) :: some (.int .i64 i) :: nl 204 [])))) (fun i => [(2, .rows 23 7 [encC c]), (3, .rows 33 20 [encZ (fillS c 0 i)])]) (fun i => i ≤ r) (fun i => r - i) [] [(1, 2), (145, 3)] 0 (by omega) ?_ ?_ ?_ ?_ ?_ ?_
      | trace_state
    rotate_right
    · intro i hi
      clear hnew hb hsl
      rcases Nat.lt_or_eq_of_le hi with hlt | rfl
      · have hd : ((i : Int) < (r : Int)) = True := by simp; omega
        have hb0 := fill_bd (b := 0) (n := i) hok (by omega)
        have hb1 := put_bd (id := 0) (t := t0 1 i 0) hb0
        have e1 := fill_invoke (b := 0) (n := i) (id := 0) (v := i) hok (by omega) (by omega) (by omega) (.inl rfl)
        have e2 : sSteps (put1 (fillS c 0 i) 0 (t0 1 i 0)) 0 100 = (fillS c 0 (i + 1), 7) := by
          have := fill_steps (b := 0) (n := i) hok (by omega)
          simpa using this
        have hwi : IntKind.wrap .i64 ((i : Int) + 1) = ((i + 1 : Nat) : Int) := by rw [wrap64 (by omega) (by omega)]; omega
        clear hrc
        simp (maxSteps := 1000000) only [all_some, all_none, all_nil, nl_s, nl_0]
        intros
        repeat' with_reducible first | refine gTn_of (fun h => ?_) (fun h => ?_) | refine gT_of (fun h => ?_) (fun h => ?_) | refine caseTn_of (fun h => ?_) (fun h => ?_) | refine caseT_of (fun h => ?_) (fun h => ?_) | refine FN ?_ ?_ ?_ ?_ rfl ?_ | refine kv_ifn ?_ ?_ | refine kv_if ?_ ?_ | refine k_if ?_ ?_ | refine IA ?_ ?_ ?_ | refine L1 ?_ ?_ | refine L2 ?_ ?_ | refine L3 ?_ ?_ ?_ ?_ | refine L4 ?_ ?_ | refine L5 ?_ ?_ ?_ ?_ ?_ | refine L6 ?_ ?_ ?_ ?_ ?_ | refine AC.p0 (con21 ) ?_ (by simp -implicitDefEqProofs only [qU, pure_encZ, pure_encQ, pure_encC]; done) ?_ ?_ | refine AC.p0 (con33s ) ?_ (by simp -implicitDefEqProofs only [qU, pure_encZ, pure_encQ, pure_encC]; done) ?_ ?_ | refine AC.p0 (con34s ?_) ?_ (by simp -implicitDefEqProofs only [qU, pure_encZ, pure_encQ, pure_encC]; done) ?_ ?_ | refine AC.p0 (con23 ?_) ?_ (by simp -implicitDefEqProofs only [qU, pure_encZ, pure_encQ, pure_encC]; done) ?_ ?_ | refine AC.p0 (con35s ?_) ?_ (by simp -implicitDefEqProofs only [qU, pure_encZ, pure_encQ, pure_encC]; done) ?_ ?_ | refine ia_of (d := default) ?_ ?_ | refine rm_of [] [(2, 2), (3, 3)] (i + 1) ?_ ?_ ?_ ?_ ?_ ?_ | simp -implicitDefEqProofs only [F7, qA, ld_0, ld_pv, st_0, splice, doEqs, qU, List.reduceReplicate, Nat.reduceAdd, Nat.reduceSub, Nat.reduceLeDiff, Nat.reduceEqDiff, Nat.reduceMul, reduceIte, reduceCtorEq, qI, Nat.reduceLT, Nat.reduceBEq, up_s, Int.toNat_natCast, encT, qZ, nl_s, nl_0, qC, qT, qQ, qQ2, qCf, doConv, encI, Int.reduceEq, Int.reduceNe, Int.reduceLT, Int.reduceLE, Int.reduceToNat, lm_normal, lm_exit, lm_ret, Int.natCast_zero, *]
        all_goals first
          | exact bdP hb0 (by omega)
          | exact bdP hb1 (by omega)
          | omega
          | trace_state
      · have hd : ((i : Int) < (i : Int)) = False := by simp
        have hb0 := fill_bd (b := 0) (n := i) hok (by omega)
        have hb1 := put_bd (id := 0) (t := t0 K val 0) hb0
        have e1 := fill_invoke (b := 0) (n := i) (id := 0) (v := val) hok (by omega) (by omega) (by omega) hK3
        obtain ⟨Z, m, vals, e2, z1, z2, z3, R1, R2, R3, R4⟩ := full_ok (val := val) hok hrc hK3
        have hb2 : Bd Z 9000 := by
          have := bd_sSteps (id := 0) (n := 100) (bdP hb1 (Nat.le_refl _))
          rw [e2] at this; exact this.mono (by omega)
        simp only [me_0] at R1 R2 R3 R4
        have hwi : IntKind.wrap .i64 ((i : Int) + 1) = (i : Int) + 1 := wrap64 (by omega) (by omega)
        have hwi2 : IntKind.wrap .i64 ((i : Int) + 2) = (i : Int) + 2 := wrap64 (by omega) (by omega)
        have hwim : IntKind.wrap .i64 ((i : Int) - 1) = (i : Int) - 1 := wrap64 (by omega) (by omega)
        have hti : ((i : Int) - 1).toNat = i - 1 := by omega
        have hth : (c.th < 1) = False := by simp; omega
        have hi64 : (i : Int) ≤ 64 ∧ 2 ≤ (i : Int) := by omega
        clear hrc
        rcases (show c.pol = 1 ∨ c.pol = 2 ∨ c.pol = 0 by omega) with hp | hp | hp
        · obtain ⟨x1, x2, x3, rfl⟩ := R1 hp
          clear R1 R2 R3 R4
          simp (maxSteps := 1000000) only [all_some, all_none, all_nil, nl_s, nl_0]
          intros
          repeat' with_reducible first | refine gTn_of (fun h => ?_) (fun h => ?_) | refine gT_of (fun h => ?_) (fun h => ?_) | refine caseTn_of (fun h => ?_) (fun h => ?_) | refine caseT_of (fun h => ?_) (fun h => ?_) | refine FN ?_ ?_ ?_ ?_ rfl ?_ | refine kv_ifn ?_ ?_ | refine kv_if ?_ ?_ | refine k_if ?_ ?_ | refine IA ?_ ?_ ?_ | refine L1 ?_ ?_ | refine L2 ?_ ?_ | refine L3 ?_ ?_ ?_ ?_ | refine L4 ?_ ?_ | refine L5 ?_ ?_ ?_ ?_ ?_ | refine L6 ?_ ?_ ?_ ?_ ?_ | refine AC.p0 (con21 ) ?_ (by simp -implicitDefEqProofs only [qU, pure_encZ, pure_encQ, pure_encC]; done) ?_ ?_ | refine AC.p0 (con33s ) ?_ (by simp -implicitDefEqProofs only [qU, pure_encZ, pure_encQ, pure_encC]; done) ?_ ?_ | refine AC.p0 (con34s ?_) ?_ (by simp -implicitDefEqProofs only [qU, pure_encZ, pure_encQ, pure_encC]; done) ?_ ?_ | refine AC.p0 (con23 ?_) ?_ (by simp -implicitDefEqProofs only [qU, pure_encZ, pure_encQ, pure_encC]; done) ?_ ?_ | refine AC.p0 (con35s ?_) ?_ (by simp -implicitDefEqProofs only [qU, pure_encZ, pure_encQ, pure_encC]; done) ?_ ?_ | refine ia_of (d := default) ?_ ?_ | simp -implicitDefEqProofs only [F7, qA, ld_0, ld_pv, st_0, splice, doEqs, qU, List.reduceReplicate, Nat.reduceAdd, Nat.reduceSub, Nat.reduceLeDiff, Nat.reduceEqDiff, Nat.reduceMul, reduceIte, reduceCtorEq, qI, Nat.reduceLT, Nat.reduceBEq, up_s, Int.toNat_natCast, encT, qZ, nl_s, nl_0, qC, qT, qQ, qQ2, qCf, doConv, encI, Int.reduceEq, Int.reduceNe, Int.reduceLT, Int.reduceLE, Int.reduceToNat, lm_normal, lm_exit, lm_ret, Int.natCast_zero, *]
          all_goals first
            | exact bdP hb0 (by omega)
            | exact bdP hb1 (by omega)
            | exact hb2.mono (by omega)
            | exact Wk.refl _
            | omega
            | trace_state
        · obtain ⟨x1, x2, x3, rfl, x4⟩ := R2 hp
          clear R1 R2 R3 R4
          have x5 : (Z.log.length : Int) = (i : Int) + 2 := by omega
          clear x4
          simp (maxSteps := 1000000) only [all_some, all_none, all_nil, nl_s, nl_0]
          intros
          repeat' with_reducible first | refine gTn_of (fun h => ?_) (fun h => ?_) | refine gT_of (fun h => ?_) (fun h => ?_) | refine caseTn_of (fun h => ?_) (fun h => ?_) | refine caseT_of (fun h => ?_) (fun h => ?_) | refine FN ?_ ?_ ?_ ?_ rfl ?_ | refine kv_ifn ?_ ?_ | refine kv_if ?_ ?_ | refine k_if ?_ ?_ | refine IA ?_ ?_ ?_ | refine L1 ?_ ?_ | refine L2 ?_ ?_ | refine L3 ?_ ?_ ?_ ?_ | refine L4 ?_ ?_ | refine L5 ?_ ?_ ?_ ?_ ?_ | refine L6 ?_ ?_ ?_ ?_ ?_ | refine AC.p0 (con21 ) ?_ (by simp -implicitDefEqProofs only [qU, pure_encZ, pure_encQ, pure_encC]; done) ?_ ?_ | refine AC.p0 (con33s ) ?_ (by simp -implicitDefEqProofs only [qU, pure_encZ, pure_encQ, pure_encC]; done) ?_ ?_ | refine AC.p0 (con34s ?_) ?_ (by simp -implicitDefEqProofs only [qU, pure_encZ, pure_encQ, pure_encC]; done) ?_ ?_ | refine AC.p0 (con23 ?_) ?_ (by simp -implicitDefEqProofs only [qU, pure_encZ, pure_encQ, pure_encC]; done) ?_ ?_ | refine AC.p0 (con35s ?_) ?_ (by simp -implicitDefEqProofs only [qU, pure_encZ, pure_encQ, pure_encC]; done) ?_ ?_ | refine ia_of (d := default) ?_ ?_ | simp -implicitDefEqProofs only [F7, qA, ld_0, ld_pv, st_0, splice, doEqs, qU, List.reduceReplicate, Nat.reduceAdd, Nat.reduceSub, Nat.reduceLeDiff, Nat.reduceEqDiff, Nat.reduceMul, reduceIte, reduceCtorEq, qI, Nat.reduceLT, Nat.reduceBEq, up_s, Int.toNat_natCast, encT, qZ, nl_s, nl_0, qC, qT, qQ, qQ2, qCf, doConv, encI, Int.reduceEq, Int.reduceNe, Int.reduceLT, Int.reduceLE, Int.reduceToNat, lm_normal, lm_exit, lm_ret, Int.natCast_zero, *]
          all_goals first
            | exact bdP hb0 (by omega)
            | exact bdP hb1 (by omega)
            | exact hb2.mono (by omega)
            | exact Wk.refl _
            | omega
            | trace_state
        · by_cases hk2 : K = 2
          · obtain ⟨x1, x2, rfl⟩ := R3 hp hk2
            clear R1 R2 R3 R4
            subst hk2
            simp (maxSteps := 1000000) only [all_some, all_none, all_nil, nl_s, nl_0]
            intros
            repeat' with_reducible first | refine gTn_of (fun h => ?_) (fun h => ?_) | refine gT_of (fun h => ?_) (fun h => ?_) | refine caseTn_of (fun h => ?_) (fun h => ?_) | refine caseT_of (fun h => ?_) (fun h => ?_) | refine FN ?_ ?_ ?_ ?_ rfl ?_ | refine kv_ifn ?_ ?_ | refine kv_if ?_ ?_ | refine k_if ?_ ?_ | refine IA ?_ ?_ ?_ | refine L1 ?_ ?_ | refine L2 ?_ ?_ | refine L3 ?_ ?_ ?_ ?_ | refine L4 ?_ ?_ | refine L5 ?_ ?_ ?_ ?_ ?_ | refine L6 ?_ ?_ ?_ ?_ ?_ | refine AC.p0 (con21 ) ?_ (by simp -implicitDefEqProofs only [qU, pure_encZ, pure_encQ, pure_encC]; done) ?_ ?_ | refine AC.p0 (con33s ) ?_ (by simp -implicitDefEqProofs only [qU, pure_encZ, pure_encQ, pure_encC]; done) ?_ ?_ | refine AC.p0 (con34s ?_) ?_ (by simp -implicitDefEqProofs only [qU, pure_encZ, pure_encQ, pure_encC]; done) ?_ ?_ | refine AC.p0 (con23 ?_) ?_ (by simp -implicitDefEqProofs only [qU, pure_encZ, pure_encQ, pure_encC]; done) ?_ ?_ | refine AC.p0 (con35s ?_) ?_ (by simp -implicitDefEqProofs only [qU, pure_encZ, pure_encQ, pure_encC]; done) ?_ ?_ | refine ia_of (d := default) ?_ ?_ | simp -implicitDefEqProofs only [F7, qA, ld_0, ld_pv, st_0, splice, doEqs, qU, List.reduceReplicate, Nat.reduceAdd, Nat.reduceSub, Nat.reduceLeDiff, Nat.reduceEqDiff, Nat.reduceMul, reduceIte, reduceCtorEq, qI, Nat.reduceLT, Nat.reduceBEq, up_s, Int.toNat_natCast, encT, qZ, nl_s, nl_0, qC, qT, qQ, qQ2, qCf, doConv, encI, Int.reduceEq, Int.reduceNe, Int.reduceLT, Int.reduceLE, Int.reduceToNat, lm_normal, lm_exit, lm_ret, Int.natCast_zero, *]
            all_goals first
              | exact bdP hb0 (by omega)
              | exact bdP hb1 (by omega)
              | exact hb2.mono (by omega)
              | exact Wk.refl _
              | omega
              | trace_state
          · obtain ⟨x1, x2, x3, x4⟩ := R4 hp hk2
            clear R1 R2 R3 R4
            have hk2' : (K = 2) = False := by simp [hk2]
            clear hK3
            by_cases hwt : c.wt = 3 ∨ c.wt = 2
            · obtain ⟨x5, x6⟩ := x3 hwt
              have x7 : (Z.full.ln.length : Int) = 1 := by omega
              clear x3 x4 x6
              rcases hwt with hwt | hwt
              all_goals
                simp (maxSteps := 1000000) only [all_some, all_none, all_nil, nl_s, nl_0]
                intros
                repeat' with_reducible first | refine gTn_of (fun h => ?_) (fun h => ?_) | refine gT_of (fun h => ?_) (fun h => ?_) | refine caseTn_of (fun h => ?_) (fun h => ?_) | refine caseT_of (fun h => ?_) (fun h => ?_) | refine FN ?_ ?_ ?_ ?_ rfl ?_ | refine kv_ifn ?_ ?_ | refine kv_if ?_ ?_ | refine k_if ?_ ?_ | refine IA ?_ ?_ ?_ | refine L1 ?_ ?_ | refine L2 ?_ ?_ | refine L3 ?_ ?_ ?_ ?_ | refine L4 ?_ ?_ | refine L5 ?_ ?_ ?_ ?_ ?_ | refine L6 ?_ ?_ ?_ ?_ ?_ | refine AC.p0 (con21 ) ?_ (by simp -implicitDefEqProofs only [qU, pure_encZ, pure_encQ, pure_encC]; done) ?_ ?_ | refine AC.p0 (con33s ) ?_ (by simp -implicitDefEqProofs only [qU, pure_encZ, pure_encQ, pure_encC]; done) ?_ ?_ | refine AC.p0 (con34s ?_) ?_ (by simp -implicitDefEqProofs only [qU, pure_encZ, pure_encQ, pure_encC]; done) ?_ ?_ | refine AC.p0 (con23 ?_) ?_ (by simp -implicitDefEqProofs only [qU, pure_encZ, pure_encQ, pure_encC]; done) ?_ ?_ | refine AC.p0 (con35s ?_) ?_ (by simp -implicitDefEqProofs only [qU, pure_encZ, pure_encQ, pure_encC]; done) ?_ ?_ | refine ia_of (d := default) ?_ ?_ | simp -implicitDefEqProofs only [F7, qA, ld_0, ld_pv, st_0, splice, doEqs, qU, List.reduceReplicate, Nat.reduceAdd, Nat.reduceSub, Nat.reduceLeDiff, Nat.reduceEqDiff, Nat.reduceMul, reduceIte, reduceCtorEq, qI, Nat.reduceLT, Nat.reduceBEq, up_s, Int.toNat_natCast, encT, qZ, nl_s, nl_0, qC, qT, qQ, qQ2, qCf, doConv, encI, Int.reduceEq, Int.reduceNe, Int.reduceLT, Int.reduceLE, Int.reduceToNat, lm_normal, lm_exit, lm_ret, Int.natCast_zero, *]
                all_goals first
                  | exact bdP hb0 (by omega)
                  | exact bdP hb1 (by omega)
                  | exact hb2.mono (by omega)
                  | exact Wk.refl _
                  | omega
                  | trace_state
            · obtain ⟨x5, rfl⟩ := x4 hwt
              clear x3 x4
              have hw3 : (c.wt = 3) = False := by simp; omega
              have hw2 : (c.wt = 2) = False := by simp; omega
              clear hwt
              simp (maxSteps := 1000000) only [all_some, all_none, all_nil, nl_s, nl_0]
              intros
              repeat' with_reducible first | refine gTn_of (fun h => ?_) (fun h => ?_) | refine gT_of (fun h => ?_) (fun h => ?_) | refine caseTn_of (fun h => ?_) (fun h => ?_) | refine caseT_of (fun h => ?_) (fun h => ?_) | refine FN ?_ ?_ ?_ ?_ rfl ?_ | refine kv_ifn ?_ ?_ | refine kv_if ?_ ?_ | refine k_if ?_ ?_ | refine IA ?_ ?_ ?_ | refine L1 ?_ ?_ | refine L2 ?_ ?_ | refine L3 ?_ ?_ ?_ ?_ | refine L4 ?_ ?_ | refine L5 ?_ ?_ ?_ ?_ ?_ | refine L6 ?_ ?_ ?_ ?_ ?_ | refine AC.p0 (con21 ) ?_ (by simp -implicitDefEqProofs only [qU, pure_encZ, pure_encQ, pure_encC]; done) ?_ ?_ | refine AC.p0 (con33s ) ?_ (by simp -implicitDefEqProofs only [qU, pure_encZ, pure_encQ, pure_encC]; done) ?_ ?_ | refine AC.p0 (con34s ?_) ?_ (by simp -implicitDefEqProofs only [qU, pure_encZ, pure_encQ, pure_encC]; done) ?_ ?_ | refine AC.p0 (con23 ?_) ?_ (by simp -implicitDefEqProofs only [qU, pure_encZ, pure_encQ, pure_encC]; done) ?_ ?_ | refine AC.p0 (con35s ?_) ?_ (by simp -implicitDefEqProofs only [qU, pure_encZ, pure_encQ, pure_encC]; done) ?_ ?_ | refine ia_of (d := default) ?_ ?_ | simp -implicitDefEqProofs only [F7, qA, ld_0, ld_pv, st_0, splice, doEqs, qU, List.reduceReplicate, Nat.reduceAdd, Nat.reduceSub, Nat.reduceLeDiff, Nat.reduceEqDiff, Nat.reduceMul, reduceIte, reduceCtorEq, qI, Nat.reduceLT, Nat.reduceBEq, up_s, Int.toNat_natCast, encT, qZ, nl_s, nl_0, qC, qT, qQ, qQ2, qCf, doConv, encI, Int.reduceEq, Int.reduceNe, Int.reduceLT, Int.reduceLE, Int.reduceToNat, lm_normal, lm_exit, lm_ret, Int.natCast_zero, *]
              all_goals first
                | exact bdP hb0 (by omega)
                | exact bdP hb1 (by omega)
                | exact hb2.mono (by omega)
                | exact Wk.refl _
                | omega
                | trace_state
    all_goals first
      | omega
      | (simp (maxSteps := 1000000) -implicitDefEqProofs only [vc_skip, vc_ret, vc_exit, vc_seq, vc_block, vc_cond, vc_loop, vc_reg, vc_regT, r_nil, r_cons, r_consg, t_nil, t_cons, t_consg, nx, nt, g_bool, g_tup, gt_true, gt_false, ck_fn, th_normal, th_exit, th_ret, ib_normal, ib_exit, ib_ret, rt_normal, rt_ret, rs_some, rl_nil, rl_cons, rl_cell, one1_0, one1_1, one1_2, v_mv, v_ext, v_not, v_bin, v_eqb, v_eqs, v_eqn, v_conv, v_fld, v_build, v_tassert, v_mn, v_mx, v_faddr, v_aaddr, v_nilchk, v_iaddr, v_slc, v_len, v_app, v_cpy, v_ld, v_st, v_lkp, v_mupd, v_mdel, v_alloc, v_box, v_bslice, v_mkslice, v_mkfn, v_mkif, v_mkmap, v_call, v_callv, e_tmp, e_const, e_func, g_0, g_s, p_none, p_some, s_0, s_s, u_nil, u_some, u_none, m_get_nil, m_get_same, m_get, m_rep_nil, m_rep, m_del_nil, m_del, k_some, kv_some, lv_some, dynOk, apartN, List.reverse_cons, List.reverse_nil, Bool.not_not, Bool.and_false, Bool.false_and, List.mem_cons, List.not_mem_nil, or_false, bin_int, mn_int, mx_int, i_add, i_sub, i_mul, i_eql, i_neq, i_lss, i_leq, i_gtr, i_geq, i_rem, i_quo, ls_normal, ls_exit, ls_ret, len_enc, c_bool, c_true, c_false, v_pick, pk_true, pk_false, pk_bb, List.contains_cons, List.contains_nil, Bool.or_false, Bool.false_or, Bool.true_or, Bool.or_true, lf_ptr, lf_pv, lf_fn, fa_ptr, fa_pv, AV.cells, AV.one, doBox, ld_0, ld_pv, part, st_0, splice, doExt, doNot, doEqb, doEqs, kindOk, cellsEq, doBuild, fillA, doFld, Prod.mk.injEq, AV.int.injEq, AV.bool.injEq, AV.agg.injEq, AV.tup.injEq, List.cons.injEq, vwt_s, vwt_p, vwt_m, stt_s, stt_p, stt_m, frzS, frzP, doApp, rowsOf, ne_eq, not_true_eq_false, not_false_eq_true, vwP, vwS, zp_nil, zp_cons, pb_rows, puress, AV.pure, pures, AV.flat, flats, trs, AV.tr, mt_nil, mt_some, mt_none, Option.map_some, Option.map_none, Option.bind_some, Option.isSome_some, List.map_cons, List.map_nil, List.length_cons, List.length_nil, List.length_append, List.all_cons, List.all_nil, List.take_succ_cons, List.take_zero, List.take_nil, List.drop_succ_cons, List.drop_zero, List.drop_nil, List.getElem?_cons_zero, List.getElem?_cons_succ, List.cons_append, List.nil_append, List.append_nil, List.set_cons_zero, List.set_cons_succ, List.reduceReplicate, Bool.and_true, Bool.true_and, Bool.and_self, Bool.not_true, Bool.not_false, decide_true, decide_false, beq_true, beq_false, BEq.rfl, Nat.zero_add, Nat.add_zero, Nat.reduceAdd, Nat.reduceSub, Nat.reduceLeDiff, Nat.reduceEqDiff, Nat.le_refl, Nat.reduceMul, if_true, if_false, ite_true, ite_false, and_true, true_and, and_self, Bool.false_eq_true, reduceIte, reduceCtorEq, neg?, puress_map pure_encI, puress_map pure_encT, puress_map pure_encS, puress_map pure_encE, pure_encI, pure_encT, pure_encS, pure_encE, trss_enc _ pure_encI, trss_enc _ pure_encT, trss_enc _ pure_encS, trss_enc _ pure_encE, trs_pure _ _ (pure_encI _), trs_pure _ _ (pure_encT _), trs_pure _ _ (pure_encS _), trs_pure _ _ (pure_encE _), cond_true, cond_false, Bool.cond_true, Bool.cond_false, len_nil, len_slv, un_1, un_2, un_3, un_normal, un_exit, un_ret, take_maps, len_encS, len_encT, inlOk, inlU, AV.inN, ins_cons, ins_nil, inss_cons, inss_nil, ix_rows, nm_rows, nmss_cons, nmss_nil, nms_cons, nms_nil, AV.nms, autoR, pk_nil, pk_cons, on_nil, on_cons, nn_nil, nn_cons, stOk, stM, stT, nameT, lk, Blk.tr, AM.upd, AM.rep, AM.del, bt_rows, List.nodup_cons, List.nodup_nil, List.append_assoc, Nat.reduceLT, decide_eq_true_eq, Bool.and_eq_true, List.mem_singleton, List.any_cons, List.any_nil, Option.isSome_none, Option.getD_some, take_mapl, List.length_set, Nat.lt_irrefl, not_false_eq_true, trss, List.length_map, or_true, true_or, false_or, or_false, Nat.reduceBEq, List.length_replicate, Nat.reduceLT, doNilchk, true_and, and_true, inNss_enc pure_encI, inNss_enc pure_encT, inNss_enc pure_encS, inNss_enc pure_encE, nmsLL_enc pure_encI, nmsLL_enc pure_encT, nmsLL_enc pure_encS, nmsLL_enc pure_encE, len_encZ, take_encZ, drop_encZ, all_encZ, pure_encZ, inN_encZ, nms_encZ, trs_pure _ _ (pure_encZ _), splice, nl_s, nl_0, qCf, hrc]; first | done | (simp; done))
      | trace_state
  · have hc : ¬ confCheck c = 0 := by rw [confCheck_ok]; exact hok
    have hnew2 : (fabNew c).2 = 20 := by
      unfold fabNew; rw [if_pos hc]; unfold confCheck; rw [if_neg hok]
    refine mcb_of_vc mix x7 (by simp [F7]) fun hw _ => ?_
    clear hw
    repeat' with_reducible first | refine gTn_of (fun h => ?_) (fun h => ?_) | refine gT_of (fun h => ?_) (fun h => ?_) | refine caseTn_of (fun h => ?_) (fun h => ?_) | refine caseT_of (fun h => ?_) (fun h => ?_) | refine FN ?_ ?_ ?_ ?_ rfl ?_ | refine kv_ifn ?_ ?_ | refine kv_if ?_ ?_ | refine k_if ?_ ?_ | refine IA ?_ ?_ ?_ | refine L1 ?_ ?_ | refine L2 ?_ ?_ | refine L3 ?_ ?_ ?_ ?_ | refine L4 ?_ ?_ | refine L5 ?_ ?_ ?_ ?_ ?_ | refine L6 ?_ ?_ ?_ ?_ ?_ | refine AC.p0 (con21 ) ?_ (by simp -implicitDefEqProofs only [qU, pure_encZ, pure_encQ, pure_encC]; done) ?_ ?_ | refine AC.p0 (con33s ) ?_ (by simp -implicitDefEqProofs only [qU, pure_encZ, pure_encQ, pure_encC]; done) ?_ ?_ | refine AC.p0 (con34s ?_) ?_ (by simp -implicitDefEqProofs only [qU, pure_encZ, pure_encQ, pure_encC]; done) ?_ ?_ | refine AC.p0 (con23 ?_) ?_ (by simp -implicitDefEqProofs only [qU, pure_encZ, pure_encQ, pure_encC]; done) ?_ ?_ | refine AC.p0 (con35s ?_) ?_ (by simp -implicitDefEqProofs only [qU, pure_encZ, pure_encQ, pure_encC]; done) ?_ ?_ | simp -implicitDefEqProofs only [F7, qA, ld_0, ld_pv, st_0, splice, doEqs, qU, List.reduceReplicate, Nat.reduceAdd, Nat.reduceSub, Nat.reduceLeDiff, Nat.reduceEqDiff, Nat.reduceMul, reduceIte, reduceCtorEq, qI, Nat.reduceLT, Nat.reduceBEq, up_s, Int.toNat_natCast, encT, qZ, nl_s, nl_0, qC, qT, qQ, qQ2, qCf, doConv, encI, Int.reduceEq, Int.reduceNe, Int.reduceLT, Int.reduceLE, Int.reduceToNat, lm_normal, lm_exit, lm_ret, Int.natCast_zero, hnew2, *]
    all_goals first
      | exact bdP bd_new (by omega)
      | exact Wk.refl _
      | trace_state

end Go.Sak
