/- The statement SendTells holds of the program. Conditions: none. -/
import Derived.Test.YtccdhjhffebpoaaGreatRows
import Derived.Test.YtccdhjhffebpoaaGreatS05
import Derived.Test.YtccdhjhffebpoaaGreatS89
import Derived.WalkKit
import Derived.KernelRfl
namespace Go.Sak.sendTells
open Go Go.Sak Go.RowKit Go.Proofs Go.Proofs.YtccdhjhffebpoaaGreat Go.ChangeShapes Go.WideShapes Go.ChangeAt
set_option linter.unusedVariables false
theorem own:ownKnob Tryz.prog.godebug=none:=by kernel_rfl
theorem laidOut:laidOutB Tryz.prog=true:=by kernel_rfl
theorem u8_nn {n:Int} (h:IntKind.u8.min≤n∧n≤IntKind.u8.max):0≤n:=by
  have h1:=h.1
  rw [show IntKind.u8.min=0 from by decide] at h1
  exact h1
theorem kinds33:flatK Tryz.prog 4 33=some kfState:=by kernel_rfl
set_option maxRecDepth 100000 in
theorem lifted (os:Os) (started:os.Started) (H:Type) (enc:TypeId×Value→H) :
    ReturnsInHanded {} Tryz.checked os 3 .any (Rows.sendTellsSpec.pre6 enc Tryz.prog Tryz.f3 Rows.sendTellsRow.domain false) (Rows.sendTellsSpec.post enc Tryz.prog Tryz.f3 false true false false):=by
  refine returnsInHanded_of_change_sized (C:=Tryz.checked) own started (by kernel_rfl) Tryz.func3
    (ChangeSpec.witness6 (enc:=enc) (C:=Tryz.checked) false ⟨#[],#[(.agg #[.int .i64 0,.int .i64 0,.int .i64 0,.int .i64 0,.int .i64 0,.int .i64 0,.bool false,.int .i64 0,.int .i64 0,.int .i64 0,.slice none 0 0,.slice none 0 0,.slice none 0 0,.int .i64 0,.slice none 0 0,.int .i64 0,.slice none 0 0,.int .i64 0,.slice none 0 0,.slice none 0 0]),.int .i64 0,.int .i64 0,.int .i64 0],[]⟩ 8 (by kernel_rfl) (by kernel_rfl) (by kernel_rfl) (by kernel_rfl)) ?_
  intro W base args ds gs before hval0 hW hcnd hsz0 _
  have hval:∀ (j:Nat) t v,Tryz.f3.params[j]?=some t→args[j]?=some v→Value.okWide Tryz.prog W .any base t v:=hval0
  have hW':=hW
  obtain ⟨p,q,hA0,hV,rfl,hfz,hnd⟩:=hW
  have hA:DataW.TrodAll enc Tryz.prog W 0 (fun _=>true) true Tryz.f3.params.toList args.toList ds p:=hA0
  rw [Tryz.params3] at hA hval
  obtain ⟨v0,vs0,d0,ds0,p0,q0,hargs,rfl,rfl,h0,r0⟩:=trodAll_cons hA
  obtain ⟨v1,vs1,d1,ds1,p1,q1,rfl,rfl,rfl,h1,r1⟩:=trodAll_cons r0
  obtain ⟨v2,vs2,d2,ds2,p2,q2,rfl,rfl,rfl,h2,r2⟩:=trodAll_cons r1
  obtain ⟨v3,vs3,d3,ds3,p3,q3,rfl,rfl,rfl,h3,r3⟩:=trodAll_cons r2
  obtain ⟨rfl,rfl,rfl⟩:=trodAll_nil r3
  obtain rfl:args=#[v0,v1,v2,v3]:=by cases args; simp_all
  obtain ⟨rfl,rfl⟩:=trodVars_none hV
  have k0:=h0
  have lt0:∀ x∈p0,x.block<W.heap.size:=by obtain ⟨m,hm⟩:=k0; exact DataW.trod_lt m _ _ _ hm
  obtain ⟨s0,w0⟩:∃ s:State,VR (ctx0 W) (.agg (encZ s)) v0:=by
    obtain ⟨m,hm⟩:=h0
    exact open_State_v ctx0_B (flat_trod kinds33 hm)
  obtain ⟨a1,rfl,rfl,rfl,w1⟩:=open_int Tryz.underlying3 (hval 1 3 v1 rfl rfl) h1
  have g1:=(Lit.wf_int_iff _ _).1 w1
  obtain ⟨a2,rfl,rfl,rfl,w2⟩:=open_int Tryz.underlying3 (hval 2 3 v2 rfl rfl) h2
  have g2:=(Lit.wf_int_iff _ _).1 w2
  obtain ⟨a3,rfl,rfl,rfl,w3⟩:=open_int Tryz.underlying3 (hval 3 3 v3 rfl rfl) h3
  have g3:=(Lit.wf_int_iff _ _).1 w3
  clear hA0 hval0 hsz0
  have hc:Con Tryz.prog 3 [.agg (encZ s0),.int .i64 a1,.int .i64 a2,.int .i64 a3] (.bool true,[],[]):=con3 
  have hr:ARel (ctx0 W) [.agg (encZ s0),.int .i64 a1,.int .i64 a2,.int .i64 a3] #[v0,.int .i64 a1,.int .i64 a2,.int .i64 a3]:=by
    refine ⟨rfl,fun i x hi=>?_⟩
    have hi':=(List.getElem?_eq_some_iff.1 hi).1
    simp only [List.length_cons,List.length_nil] at hi'
    have hi2:i=0∨i=1∨i=2∨i=3:=by omega
    rcases hi2 with rfl | rfl | rfl | rfl
    · simp at hi; subst hi; exact w0
    · simp at hi; subst hi; exact .int _ _ g1
    · simp at hi; subst hi; exact .int _ _ g2
    · simp at hi; subst hi; exact .int _ _ g3
  refine (row_calls hc W hr).mono fun e W' ⟨he,bel⟩=>?_
  subst he
  exact ⟨_,rfl,_,_,_,[],_,[],hW',trodAll_mk1 (shut_bool Tryz.underlying4 _),(trodAll_cons_mk (Below.trod laidOut (by kernel_rfl) (of_decide_eq_true (by kernel_rfl)) k0 bel lt0) (trodAll_cons_mk (shut_int Tryz.underlying3 w1) (trodAll_cons_mk (shut_int Tryz.underlying3 w2) (trodAll_cons_mk (shut_int Tryz.underlying3 w3) trodAll_mk0)))),rfl,bel.frame _,fun h=>by cases h⟩
theorem rowed:mapsRowed Tryz.prog=true:=by kernel_rfl
theorem jInPlace:(Rows.sendTellsRow.inPlace == Tryz.prog.inPlace 3)=true:=by kernel_rfl
theorem jUnfollowed:(Rows.sendTellsRow.unfollowed == Tryz.prog.unfollowed 3)=true:=by kernel_rfl
theorem jRecurses:(Rows.sendTellsRow.recurses == Tryz.prog.recurses 3)=true:=by kernel_rfl
theorem jNamed:(Rows.sendTellsRow.named == Tryz.prog.varsNamed 3)=true:=by kernel_rfl
theorem closed:joinedFacts Tryz.prog 3 Tryz.f3 Rows.sendTellsSpec Rows.sendTellsRow=true:=by
  unfold joinedFacts
  rw [laidOut,rowed,jInPlace,jUnfollowed,jRecurses,jNamed]
  simp only [Bool.and_true]
  kernel_rfl
theorem over:Rows.sendTellsRow.holds Tryz.pinned (OpenSpec.ofChange Rows.sendTellsSpec) :=
  OpenClaim.holds_of_wide 3 Tryz.f3 rfl rfl rfl rfl rfl rfl rfl ⟨rfl,rfl,rfl,rfl,rfl⟩ rfl rfl rfl rfl rfl (by kernel_rfl) Tryz.func3 closed
    (of_decide_eq_true (by kernel_rfl)) (by unfold Func.isWrapper; first | (rw [if_pos (by decide +kernel)]; kernel_rfl) | (rw [if_neg (by decide +kernel)]; exact ⟨rfl,rfl⟩))
    (fun os started H enc _=>lifted os started H enc)
theorem proved:Rows.SendTellsSaid:=over
end Go.Sak.sendTells
namespace Go.Proofs.YtccdhjhffebpoaaGreat
theorem sendTells_holds:Rows.SendTellsSaid:=Go.Sak.sendTells.proved
end Go.Proofs.YtccdhjhffebpoaaGreat
#print axioms Go.Proofs.YtccdhjhffebpoaaGreat.sendTells_holds
