/- The statement StepSome holds of the program. Conditions: none. -/
import Derived.Test.YtojlofaafkdhgaaGreatRows
import Derived.Test.YtojlofaafkdhgaaGreatS05
import Derived.Test.YtojlofaafkdhgaaGreatS80
import Derived.WalkKit
import Derived.KernelRfl
namespace Go.Sak.stepSome
open Go Go.Sak Go.RowKit Go.Proofs Go.Proofs.YtojlofaafkdhgaaGreat Go.ChangeShapes Go.WideShapes Go.ChangeAt
set_option linter.unusedVariables false
theorem own : ownKnob Tryz.prog.godebug = none := by kernel_rfl
theorem laidOut : laidOutB Tryz.prog = true := by kernel_rfl
theorem u8_nn {n : Int} (h : IntKind.u8.min ≤ n ∧ n ≤ IntKind.u8.max) : 0 ≤ n := by
  have h1 := h.1
  rw [show IntKind.u8.min = 0 from by decide] at h1
  exact h1
theorem kinds27 : flatK Tryz.prog 4 27 = some kfList := by kernel_rfl
theorem kinds33 : flatK Tryz.prog 4 33 = some kfState := by kernel_rfl
set_option maxRecDepth 100000 in
theorem lifted (os : Os) (started : os.Started) (H : Type) (enc : TypeId × Value → H) :
    ReturnsInHanded {} Tryz.checked os 17 .any (Rows.stepSomeSpec.pre6 enc Tryz.prog Tryz.f17 Rows.stepSomeRow.domain false) (Rows.stepSomeSpec.post enc Tryz.prog Tryz.f17 false true false false) := by
  refine returnsInHanded_of_change_sized (C := Tryz.checked) own started (by kernel_rfl) Tryz.func17
    (ChangeSpec.witness6 (enc := enc) (C := Tryz.checked) false ⟨#[], #[(.agg #[.int .i64 0, .int .i64 0, .int .i64 0, .int .i64 0, .int .i64 0, .int .i64 0, .bool false, .int .i64 0, .int .i64 0, .int .i64 0, .slice none 0 0, .slice none 0 0, .slice none 0 0, .int .i64 0, .slice none 0 0, .int .i64 0, .slice none 0 0, .int .i64 0, .slice none 0 0, .slice none 0 0]), .slice none 0 0, .int .u8 0], []⟩ 8 (by kernel_rfl) (by kernel_rfl) (by kernel_rfl) (by kernel_rfl)) ?_
  intro W base args ds gs before hval0 hW hcnd hsz0 _
  have hval : ∀ (j : Nat) t v, Tryz.f17.params[j]? = some t → args[j]? = some v → Value.okWide Tryz.prog W .any base t v := hval0
  have hW' := hW
  obtain ⟨p, q, hA0, hV, rfl, hfz, hnd⟩ := hW
  have hA : DataW.TrodAll enc Tryz.prog W 0 (fun _ => true) true Tryz.f17.params.toList args.toList ds p := hA0
  rw [Tryz.params17] at hA hval
  obtain ⟨v0, vs0, d0, ds0, p0, q0, hargs, rfl, rfl, h0, r0⟩ := trodAll_cons hA
  obtain ⟨v1, vs1, d1, ds1, p1, q1, rfl, rfl, rfl, h1, r1⟩ := trodAll_cons r0
  obtain ⟨v2, vs2, d2, ds2, p2, q2, rfl, rfl, rfl, h2, r2⟩ := trodAll_cons r1
  obtain ⟨rfl, rfl, rfl⟩ := trodAll_nil r2
  obtain rfl : args = #[v0, v1, v2] := by cases args; simp_all
  obtain ⟨rfl, rfl⟩ := trodVars_none hV
  have k0 := h0
  have lt0 : ∀ x ∈ p0, x.block < W.heap.size := by obtain ⟨m, hm⟩ := k0; exact DataW.trod_lt m _ _ _ hm
  obtain ⟨s0, w0⟩ : ∃ s : State, VR (ctx0 W) (.agg (encZ s)) v0 := by
    obtain ⟨m, hm⟩ := h0
    exact open_State_v ctx0_B (flat_trod kinds33 hm)
  have k1 := h1
  have lt1 : ∀ x ∈ p1, x.block < W.heap.size := by obtain ⟨m, hm⟩ := k1; exact DataW.trod_lt m _ _ _ hm
  obtain ⟨s1, w1⟩ : ∃ s : List Int, VR (ctx0 W) (.slv 1 (s.map encI)) v1 := by
    obtain ⟨m, hm⟩ := h1
    exact open_List_v ctx0_B Tryz.underlying27 (hval 1 27 v1 rfl rfl) (flat_trod kinds27 hm)
  obtain ⟨a2, rfl, rfl, rfl, w2⟩ := open_int Tryz.underlying5 (hval 2 5 v2 rfl rfl) h2
  have g2 := (Lit.wf_int_iff _ _).1 w2
  clear hA0 hval0 hsz0
  have hc : Con Tryz.prog 17 [.agg (encZ s0), .slv 1 (s1.map encI), .int .u8 a2] (.bool true, [], []) := con17 (u8_nn g2)
  have hr : ARel (ctx0 W) [.agg (encZ s0), .slv 1 (s1.map encI), .int .u8 a2] #[v0, v1, .int .u8 a2] := by
    refine ⟨rfl, fun i x hi => ?_⟩
    have hi' := (List.getElem?_eq_some_iff.1 hi).1
    simp only [List.length_cons, List.length_nil] at hi'
    have hi2 : i = 0 ∨ i = 1 ∨ i = 2 := by omega
    rcases hi2 with rfl | rfl | rfl
    · simp at hi; subst hi; exact w0
    · simp at hi; subst hi; exact w1
    · simp at hi; subst hi; exact .int _ _ g2
  refine (row_calls hc W hr).mono fun e W' ⟨he, bel⟩ => ?_
  subst he
  exact ⟨_, rfl, _, _, _, [], _, [], hW', trodAll_mk1 (shut_bool Tryz.underlying4 _), (trodAll_cons_mk (Below.trod laidOut (by kernel_rfl) (of_decide_eq_true (by kernel_rfl)) k0 bel lt0) (trodAll_cons_mk (Below.trod laidOut (by kernel_rfl) (of_decide_eq_true (by kernel_rfl)) k1 bel lt1) (trodAll_cons_mk (shut_int Tryz.underlying5 w2) trodAll_mk0))), rfl, bel.frame _, fun h => by cases h⟩
theorem rowed : mapsRowed Tryz.prog = true := by kernel_rfl
theorem jInPlace : (Rows.stepSomeRow.inPlace == Tryz.prog.inPlace 17) = true := by kernel_rfl
theorem jUnfollowed : (Rows.stepSomeRow.unfollowed == Tryz.prog.unfollowed 17) = true := by kernel_rfl
theorem jRecurses : (Rows.stepSomeRow.recurses == Tryz.prog.recurses 17) = true := by kernel_rfl
theorem jNamed : (Rows.stepSomeRow.named == Tryz.prog.varsNamed 17) = true := by kernel_rfl
theorem closed : joinedFacts Tryz.prog 17 Tryz.f17 Rows.stepSomeSpec Rows.stepSomeRow = true := by
  unfold joinedFacts
  rw [laidOut, rowed, jInPlace, jUnfollowed, jRecurses, jNamed]
  simp only [Bool.and_true]
  kernel_rfl
theorem over : Rows.stepSomeRow.holds Tryz.pinned (OpenSpec.ofChange Rows.stepSomeSpec) :=
  OpenClaim.holds_of_wide 17 Tryz.f17 rfl rfl rfl rfl rfl rfl rfl ⟨rfl, rfl, rfl, rfl, rfl⟩ rfl rfl rfl rfl rfl (by kernel_rfl) Tryz.func17 closed
    (of_decide_eq_true (by kernel_rfl)) (by unfold Func.isWrapper; first | (rw [if_pos (by decide +kernel)]; kernel_rfl) | (rw [if_neg (by decide +kernel)]; exact ⟨rfl, rfl⟩))
    (fun os started H enc _ => lifted os started H enc)
theorem proved : Rows.StepSomeSaid := over
end Go.Sak.stepSome
namespace Go.Proofs.YtojlofaafkdhgaaGreat
theorem stepSome_holds : Rows.StepSomeSaid := Go.Sak.stepSome.proved
end Go.Proofs.YtojlofaafkdhgaaGreat
#print axioms Go.Proofs.YtojlofaafkdhgaaGreat.stepSome_holds
