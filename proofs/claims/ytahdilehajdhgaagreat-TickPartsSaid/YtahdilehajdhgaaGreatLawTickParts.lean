/- The statement TickParts holds of the program. Conditions: none. -/
import Derived.Test.YtahdilehajdhgaaGreatRows
import Derived.Test.YtahdilehajdhgaaGreatS05
import Derived.Test.YtahdilehajdhgaaGreatS123
import Derived.WalkKit
import Derived.KernelRfl
namespace Go.Sak.tickParts
open Go Go.Sak Go.RowKit Go.Proofs Go.Proofs.YtahdilehajdhgaaGreat Go.ChangeShapes Go.WideShapes Go.ChangeAt
set_option linter.unusedVariables false
theorem own:ownKnob Tryz.prog.godebug=none:=by kernel_rfl
theorem laidOut:laidOutB Tryz.prog=true:=by kernel_rfl
theorem u8_nn {n:Int} (h:IntKind.u8.min≤n∧n≤IntKind.u8.max):0≤n:=by
  have h1:=h.1
  rw [show IntKind.u8.min=0 from by decide] at h1
  exact h1
theorem u32_ok {n:Int} (h:IntKind.u32.min≤n∧n≤IntKind.u32.max):0≤n∧n≤4294967295:=by
  rw [show IntKind.u32.min=0 from by decide,show IntKind.u32.max=4294967295 from by decide] at h
  exact h
theorem kinds33:flatK Tryz.prog 4 33=some kfState:=by kernel_rfl
set_option maxRecDepth 100000 in
theorem lifted (os:Os) (started:os.Started) (H:Type) (enc:TypeId×Value→H) :
    ReturnsInHanded {} Tryz.checked os 5 .any (Rows.tickPartsSpec.pre6 enc Tryz.prog Tryz.f5 Rows.tickPartsRow.domain false) (Rows.tickPartsSpec.post enc Tryz.prog Tryz.f5 false true false false):=by
  refine returnsInHanded_of_change_sized (C:=Tryz.checked) own started (by kernel_rfl) Tryz.func5
    (ChangeSpec.witness6 (enc:=enc) (C:=Tryz.checked) false ⟨#[],#[(.agg #[.int .i64 0,.int .i64 0,.int .i64 0,.int .i64 0,.int .i64 0,.int .i64 0,.bool false,.int .i64 0,.int .i64 0,.int .i64 0,.slice none 0 0,.slice none 0 0,.slice none 0 0,.int .i64 0,.slice none 0 0,.int .i64 0,.slice none 0 0,.int .i64 0,.slice none 0 0,.slice none 0 0]),.int .u32 0,.int .u32 0],[]⟩ 8 (by kernel_rfl) (by kernel_rfl) (by kernel_rfl) (by kernel_rfl)) ?_
  intro W base args ds gs before hval0 hW hcnd hsz0 _
  have hval:∀ (j:Nat) t v,Tryz.f5.params[j]?=some t→args[j]?=some v→Value.okWide Tryz.prog W .any base t v:=hval0
  have hW':=hW
  obtain ⟨p,q,hA0,hV,rfl,hfz,hnd⟩:=hW
  have hA:DataW.TrodAll enc Tryz.prog W 0 (fun _=>true) true Tryz.f5.params.toList args.toList ds p:=hA0
  rw [Tryz.params5] at hA hval
  obtain ⟨v0,vs0,d0,ds0,p0,q0,hargs,rfl,rfl,h0,r0⟩:=trodAll_cons hA
  obtain ⟨v1,vs1,d1,ds1,p1,q1,rfl,rfl,rfl,h1,r1⟩:=trodAll_cons r0
  obtain ⟨v2,vs2,d2,ds2,p2,q2,rfl,rfl,rfl,h2,r2⟩:=trodAll_cons r1
  obtain ⟨rfl,rfl,rfl⟩:=trodAll_nil r2
  obtain rfl:args=#[v0,v1,v2]:=by cases args; simp_all
  obtain ⟨rfl,rfl⟩:=trodVars_none hV
  have k0:=h0
  have lt0:∀ x∈p0,x.block<W.heap.size:=by obtain ⟨m,hm⟩:=k0; exact DataW.trod_lt m _ _ _ hm
  obtain ⟨s0,w0⟩:∃ s:State,VR (ctx0 W) (.agg (encZ s)) v0:=by
    obtain ⟨m,hm⟩:=h0
    exact open_State_v ctx0_B (flat_trod kinds33 hm)
  obtain ⟨a1,rfl,rfl,rfl,w1⟩:=open_int Tryz.underlying43 (hval 1 43 v1 rfl rfl) h1
  have g1:=(Lit.wf_int_iff _ _).1 w1
  obtain ⟨a2,rfl,rfl,rfl,w2⟩:=open_int Tryz.underlying43 (hval 2 43 v2 rfl rfl) h2
  have g2:=(Lit.wf_int_iff _ _).1 w2
  clear hA0 hval0 hsz0
  have hc:Con Tryz.prog 5 [.agg (encZ s0),.int .u32 a1,.int .u32 a2] (.bool true,[],[]):=con5 (u32_ok g1) (u32_ok g2)
  have hr:ARel (ctx0 W) [.agg (encZ s0),.int .u32 a1,.int .u32 a2] #[v0,.int .u32 a1,.int .u32 a2]:=by
    refine ⟨rfl,fun i x hi=>?_⟩
    have hi':=(List.getElem?_eq_some_iff.1 hi).1
    simp only [List.length_cons,List.length_nil] at hi'
    have hi2:i=0∨i=1∨i=2:=by omega
    rcases hi2 with rfl | rfl | rfl
    · simp at hi; subst hi; exact w0
    · simp at hi; subst hi; exact .int _ _ g1
    · simp at hi; subst hi; exact .int _ _ g2
  refine (row_calls hc W hr).mono fun e W' ⟨he,bel⟩=>?_
  subst he
  exact ⟨_,rfl,_,_,_,[],_,[],hW',trodAll_mk1 (shut_bool Tryz.underlying4 _),(trodAll_cons_mk (Below.trod laidOut (by kernel_rfl) (of_decide_eq_true (by kernel_rfl)) k0 bel lt0) (trodAll_cons_mk (shut_int Tryz.underlying43 w1) (trodAll_cons_mk (shut_int Tryz.underlying43 w2) trodAll_mk0))),rfl,bel.frame _,fun h=>by cases h⟩
theorem rowed:mapsRowed Tryz.prog=true:=by kernel_rfl
theorem jInPlace:(Rows.tickPartsRow.inPlace == Tryz.prog.inPlace 5)=true:=by kernel_rfl
theorem jUnfollowed:(Rows.tickPartsRow.unfollowed == Tryz.prog.unfollowed 5)=true:=by kernel_rfl
theorem jRecurses:(Rows.tickPartsRow.recurses == Tryz.prog.recurses 5)=true:=by kernel_rfl
theorem jNamed:(Rows.tickPartsRow.named == Tryz.prog.varsNamed 5)=true:=by kernel_rfl
theorem closed:joinedFacts Tryz.prog 5 Tryz.f5 Rows.tickPartsSpec Rows.tickPartsRow=true:=by
  unfold joinedFacts
  rw [laidOut,rowed,jInPlace,jUnfollowed,jRecurses,jNamed]
  simp only [Bool.and_true]
  kernel_rfl
theorem over:Rows.tickPartsRow.holds Tryz.pinned (OpenSpec.ofChange Rows.tickPartsSpec) :=
  OpenClaim.holds_of_wide 5 Tryz.f5 rfl rfl rfl rfl rfl rfl rfl ⟨rfl,rfl,rfl,rfl,rfl⟩ rfl rfl rfl rfl rfl (by kernel_rfl) Tryz.func5 closed
    (of_decide_eq_true (by kernel_rfl)) (by unfold Func.isWrapper; first | (rw [if_pos (by decide +kernel)]; kernel_rfl) | (rw [if_neg (by decide +kernel)]; exact ⟨rfl,rfl⟩))
    (fun os started H enc _=>lifted os started H enc)
theorem proved:Rows.TickPartsSaid:=over
end Go.Sak.tickParts
namespace Go.Proofs.YtahdilehajdhgaaGreat
theorem tickParts_holds:Rows.TickPartsSaid:=Go.Sak.tickParts.proved
end Go.Proofs.YtahdilehajdhgaaGreat
#print axioms Go.Proofs.YtahdilehajdhgaaGreat.tickParts_holds
