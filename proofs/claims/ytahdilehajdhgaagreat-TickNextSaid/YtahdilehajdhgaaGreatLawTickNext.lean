/- The statement TickNext holds of the program. Conditions: none. -/
import Derived.Test.YtahdilehajdhgaaGreatRows
import Derived.Test.YtahdilehajdhgaaGreatS05
import Derived.Test.YtahdilehajdhgaaGreatS122
import Derived.WalkKit
import Derived.KernelRfl
namespace Go.Sak.tickNext
open Go Go.Sak Go.RowKit Go.Proofs Go.Proofs.YtahdilehajdhgaaGreat Go.ChangeShapes Go.WideShapes Go.ChangeAt
set_option linter.unusedVariables false
theorem own:ownKnob Tryz.prog.godebug=none:=by kernel_rfl
theorem laidOut:laidOutB Tryz.prog=true:=by kernel_rfl
theorem u8_nn {n:Int} (h:IntKind.u8.min≤n∧n≤IntKind.u8.max):0≤n:=by
  have h1:=h.1
  rw [show IntKind.u8.min=0 from by decide] at h1
  exact h1
theorem kinds33:flatK Tryz.prog 4 33=some kfState:=by kernel_rfl
set_option maxRecDepth 100000 in
theorem lifted (os:Os) (started:os.Started) (H:Type) (enc:TypeId×Value→H) :
    ReturnsInHanded {} Tryz.checked os 6 .any (Rows.tickNextSpec.pre6 enc Tryz.prog Tryz.f6 Rows.tickNextRow.domain false) (Rows.tickNextSpec.post enc Tryz.prog Tryz.f6 false true false false):=by
  refine returnsInHanded_of_change_sized (C:=Tryz.checked) own started (by kernel_rfl) Tryz.func6
    (ChangeSpec.witness6 (enc:=enc) (C:=Tryz.checked) false ⟨#[],#[(.agg #[.int .i64 0,.int .i64 0,.int .i64 0,.int .i64 0,.int .i64 0,.int .i64 0,.bool false,.int .i64 0,.int .i64 0,.int .i64 0,.slice none 0 0,.slice none 0 0,.slice none 0 0,.int .i64 0,.slice none 0 0,.int .i64 0,.slice none 0 0,.int .i64 0,.slice none 0 0,.slice none 0 0])],[]⟩ 8 (by kernel_rfl) (by kernel_rfl) (by kernel_rfl) (by kernel_rfl)) ?_
  intro W base args ds gs before hval0 hW hcnd hsz0 _
  have hval:∀ (j:Nat) t v,Tryz.f6.params[j]?=some t→args[j]?=some v→Value.okWide Tryz.prog W .any base t v:=hval0
  have hW':=hW
  obtain ⟨p,q,hA0,hV,rfl,hfz,hnd⟩:=hW
  have hA:DataW.TrodAll enc Tryz.prog W 0 (fun _=>true) true Tryz.f6.params.toList args.toList ds p:=hA0
  rw [Tryz.params6] at hA hval
  obtain ⟨v0,vs0,d0,ds0,p0,q0,hargs,rfl,rfl,h0,r0⟩:=trodAll_cons hA
  obtain ⟨rfl,rfl,rfl⟩:=trodAll_nil r0
  obtain rfl:args=#[v0]:=by cases args; simp_all
  obtain ⟨rfl,rfl⟩:=trodVars_none hV
  have k0:=h0
  have lt0:∀ x∈p0,x.block<W.heap.size:=by obtain ⟨m,hm⟩:=k0; exact DataW.trod_lt m _ _ _ hm
  obtain ⟨s0,w0⟩:∃ s:State,VR (ctx0 W) (.agg (encZ s)) v0:=by
    obtain ⟨m,hm⟩:=h0
    exact open_State_v ctx0_B (flat_trod kinds33 hm)
  clear hA0 hval0 hsz0
  have hc:Con Tryz.prog 6 [.agg (encZ s0)] (.bool true,[],[]):=con6 
  have hr:ARel (ctx0 W) [.agg (encZ s0)] #[v0]:=by
    refine ⟨rfl,fun i x hi=>?_⟩
    have hi':=(List.getElem?_eq_some_iff.1 hi).1
    simp only [List.length_cons,List.length_nil] at hi'
    have hi2:i=0:=by omega
    rcases hi2 with rfl
    · simp at hi; subst hi; exact w0
  refine (row_calls hc W hr).mono fun e W' ⟨he,bel⟩=>?_
  subst he
  exact ⟨_,rfl,_,_,_,[],_,[],hW',trodAll_mk1 (shut_bool Tryz.underlying4 _),(trodAll_cons_mk (Below.trod laidOut (by kernel_rfl) (of_decide_eq_true (by kernel_rfl)) k0 bel lt0) trodAll_mk0),rfl,bel.frame _,fun h=>by cases h⟩
theorem rowed:mapsRowed Tryz.prog=true:=by kernel_rfl
theorem jInPlace:(Rows.tickNextRow.inPlace == Tryz.prog.inPlace 6)=true:=by kernel_rfl
theorem jUnfollowed:(Rows.tickNextRow.unfollowed == Tryz.prog.unfollowed 6)=true:=by kernel_rfl
theorem jRecurses:(Rows.tickNextRow.recurses == Tryz.prog.recurses 6)=true:=by kernel_rfl
theorem jNamed:(Rows.tickNextRow.named == Tryz.prog.varsNamed 6)=true:=by kernel_rfl
theorem closed:joinedFacts Tryz.prog 6 Tryz.f6 Rows.tickNextSpec Rows.tickNextRow=true:=by
  unfold joinedFacts
  rw [laidOut,rowed,jInPlace,jUnfollowed,jRecurses,jNamed]
  simp only [Bool.and_true]
  kernel_rfl
theorem over:Rows.tickNextRow.holds Tryz.pinned (OpenSpec.ofChange Rows.tickNextSpec) :=
  OpenClaim.holds_of_wide 6 Tryz.f6 rfl rfl rfl rfl rfl rfl rfl ⟨rfl,rfl,rfl,rfl,rfl⟩ rfl rfl rfl rfl rfl (by kernel_rfl) Tryz.func6 closed
    (of_decide_eq_true (by kernel_rfl)) (by unfold Func.isWrapper; first | (rw [if_pos (by decide +kernel)]; kernel_rfl) | (rw [if_neg (by decide +kernel)]; exact ⟨rfl,rfl⟩))
    (fun os started H enc _=>lifted os started H enc)
theorem proved:Rows.TickNextSaid:=over
end Go.Sak.tickNext
namespace Go.Proofs.YtahdilehajdhgaaGreat
theorem tickNext_holds:Rows.TickNextSaid:=Go.Sak.tickNext.proved
end Go.Proofs.YtahdilehajdhgaaGreat
#print axioms Go.Proofs.YtahdilehajdhgaaGreat.tickNext_holds
