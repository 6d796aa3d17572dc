/- The statement CallKinds holds of the program. Conditions: none. -/
import Derived.Test.YtahdilehajdhgaaGreatRows
import Derived.Test.YtahdilehajdhgaaGreatS05
import Derived.Test.YtahdilehajdhgaaGreatS128
import Derived.Test.YtahdilehajdhgaaGreatS127
import Derived.WalkKit
import Derived.KernelRfl
namespace Go.Sak.callKinds
open Go Go.Sak Go.RowKit Go.Proofs Go.Proofs.YtahdilehajdhgaaGreat Go.ChangeShapes Go.WideShapes Go.ChangeAt
set_option linter.unusedVariables false
theorem own:ownKnob Tryz.prog.godebug=none:=by kernel_rfl
theorem laidOut:laidOutB Tryz.prog=true:=by kernel_rfl
theorem u8_nn {n:Int} (h:IntKind.u8.min≤n∧n≤IntKind.u8.max):0≤n:=by
  have h1:=h.1
  rw [show IntKind.u8.min=0 from by decide] at h1
  exact h1
theorem u8_ok {n:Int} (h:IntKind.u8.min≤n∧n≤IntKind.u8.max):0≤n∧n≤255:=by
  rw [show IntKind.u8.min=0 from by decide,show IntKind.u8.max=255 from by decide] at h
  exact h
theorem u32_ok {n:Int} (h:IntKind.u32.min≤n∧n≤IntKind.u32.max):0≤n∧n≤4294967295:=by
  rw [show IntKind.u32.min=0 from by decide,show IntKind.u32.max=4294967295 from by decide] at h
  exact h
set_option maxRecDepth 100000 in
theorem lifted (os:Os) (started:os.Started) (H:Type) (enc:TypeId×Value→H) :
    ReturnsInHanded {} Tryz.checked os 12 .any (Rows.callKindsSpec.pre6 enc Tryz.prog Tryz.f12 Rows.callKindsRow.domain false) (Rows.callKindsSpec.post enc Tryz.prog Tryz.f12 false true false false):=by
  refine returnsInHanded_of_change_sized (C:=Tryz.checked) own started (by kernel_rfl) Tryz.func12
    (ChangeSpec.witness6 (enc:=enc) (C:=Tryz.checked) false ⟨#[],#[.int .u8 0,.int .u8 0,.int .u32 0],[]⟩ 8 (by kernel_rfl) (by kernel_rfl) (by kernel_rfl) (by kernel_rfl)) ?_
  intro W base args ds gs before hval0 hW hcnd hsz0 _
  have hval:∀ (j:Nat) t v,Tryz.f12.params[j]?=some t→args[j]?=some v→Value.okWide Tryz.prog W .any base t v:=hval0
  have hW':=hW
  obtain ⟨p,q,hA0,hV,rfl,hfz,hnd⟩:=hW
  have hA:DataW.TrodAll enc Tryz.prog W 0 (fun _=>true) true Tryz.f12.params.toList args.toList ds p:=hA0
  rw [Tryz.params12] at hA hval
  obtain ⟨v0,vs0,d0,ds0,p0,q0,hargs,rfl,rfl,h0,r0⟩:=trodAll_cons hA
  obtain ⟨v1,vs1,d1,ds1,p1,q1,rfl,rfl,rfl,h1,r1⟩:=trodAll_cons r0
  obtain ⟨v2,vs2,d2,ds2,p2,q2,rfl,rfl,rfl,h2,r2⟩:=trodAll_cons r1
  obtain ⟨rfl,rfl,rfl⟩:=trodAll_nil r2
  obtain rfl:args=#[v0,v1,v2]:=by cases args; simp_all
  obtain ⟨rfl,rfl⟩:=trodVars_none hV
  obtain ⟨a0,rfl,rfl,rfl,w0⟩:=open_int Tryz.underlying5 (hval 0 5 v0 rfl rfl) h0
  have g0:=(Lit.wf_int_iff _ _).1 w0
  obtain ⟨a1,rfl,rfl,rfl,w1⟩:=open_int Tryz.underlying5 (hval 1 5 v1 rfl rfl) h1
  have g1:=(Lit.wf_int_iff _ _).1 w1
  obtain ⟨a2,rfl,rfl,rfl,w2⟩:=open_int Tryz.underlying43 (hval 2 43 v2 rfl rfl) h2
  have g2:=(Lit.wf_int_iff _ _).1 w2
  clear hA0 hval0 hsz0
  have hc:Con Tryz.prog 12 [.int .u8 a0,.int .u8 a1,.int .u32 a2] (.bool true,[],[]):=con12 con22 (u8_ok g0) (u8_ok g1) (u32_ok g2)
  have hr:ARel (ctx0 W) [.int .u8 a0,.int .u8 a1,.int .u32 a2] #[.int .u8 a0,.int .u8 a1,.int .u32 a2]:=by
    refine ⟨rfl,fun i x hi=>?_⟩
    have hi':=(List.getElem?_eq_some_iff.1 hi).1
    simp only [List.length_cons,List.length_nil] at hi'
    have hi2:i=0∨i=1∨i=2:=by omega
    rcases hi2 with rfl | rfl | rfl
    · simp at hi; subst hi; exact .int _ _ g0
    · simp at hi; subst hi; exact .int _ _ g1
    · simp at hi; subst hi; exact .int _ _ g2
  refine (row_calls hc W hr).mono fun e W' ⟨he,bel⟩=>?_
  subst he
  exact ⟨_,rfl,_,_,_,[],_,[],hW',trodAll_mk1 (shut_bool Tryz.underlying4 _),(trodAll_cons_mk (shut_int Tryz.underlying5 w0) (trodAll_cons_mk (shut_int Tryz.underlying5 w1) (trodAll_cons_mk (shut_int Tryz.underlying43 w2) trodAll_mk0))),rfl,bel.frame _,fun h=>by cases h⟩
theorem rowed:mapsRowed Tryz.prog=true:=by kernel_rfl
theorem jInPlace:(Rows.callKindsRow.inPlace == Tryz.prog.inPlace 12)=true:=by kernel_rfl
theorem jUnfollowed:(Rows.callKindsRow.unfollowed == Tryz.prog.unfollowed 12)=true:=by kernel_rfl
theorem jRecurses:(Rows.callKindsRow.recurses == Tryz.prog.recurses 12)=true:=by kernel_rfl
theorem jNamed:(Rows.callKindsRow.named == Tryz.prog.varsNamed 12)=true:=by kernel_rfl
theorem closed:joinedFacts Tryz.prog 12 Tryz.f12 Rows.callKindsSpec Rows.callKindsRow=true:=by
  unfold joinedFacts
  rw [laidOut,rowed,jInPlace,jUnfollowed,jRecurses,jNamed]
  simp only [Bool.and_true]
  kernel_rfl
theorem over:Rows.callKindsRow.holds Tryz.pinned (OpenSpec.ofChange Rows.callKindsSpec) :=
  OpenClaim.holds_of_wide 12 Tryz.f12 rfl rfl rfl rfl rfl rfl rfl ⟨rfl,rfl,rfl,rfl,rfl⟩ rfl rfl rfl rfl rfl (by kernel_rfl) Tryz.func12 closed
    (of_decide_eq_true (by kernel_rfl)) (by unfold Func.isWrapper; first | (rw [if_pos (by decide +kernel)]; kernel_rfl) | (rw [if_neg (by decide +kernel)]; exact ⟨rfl,rfl⟩))
    (fun os started H enc _=>lifted os started H enc)
theorem proved:Rows.CallKindsSaid:=over
end Go.Sak.callKinds
namespace Go.Proofs.YtahdilehajdhgaaGreat
theorem callKinds_holds:Rows.CallKindsSaid:=Go.Sak.callKinds.proved
end Go.Proofs.YtahdilehajdhgaaGreat
#print axioms Go.Proofs.YtahdilehajdhgaaGreat.callKinds_holds
