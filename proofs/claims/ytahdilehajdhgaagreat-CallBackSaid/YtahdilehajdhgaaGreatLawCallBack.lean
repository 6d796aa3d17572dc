/- The statement CallBack holds of the program. Conditions: none. -/
import Derived.Test.YtahdilehajdhgaaGreatRows
import Derived.Test.YtahdilehajdhgaaGreatS05
import Derived.Test.YtahdilehajdhgaaGreatS129
import Derived.Test.YtahdilehajdhgaaGreatS127
import Derived.WalkKit
import Derived.KernelRfl
namespace Go.Sak.callBack
open Go Go.Sak Go.RowKit Go.Proofs Go.Proofs.YtahdilehajdhgaaGreat Go.ChangeShapes Go.WideShapes Go.ChangeAt
set_option linter.unusedVariables false
theorem own:ownKnob Tryz.prog.godebug=none:=by kernel_rfl
theorem laidOut:laidOutB Tryz.prog=true:=by kernel_rfl
theorem u8_nn {n:Int} (h:IntKind.u8.min≤n∧n≤IntKind.u8.max):0≤n:=by
  have h1:=h.1
  rw [show IntKind.u8.min=0 from by decide] at h1
  exact h1
theorem kinds27:flatK Tryz.prog 4 27=some kfList:=by kernel_rfl
theorem kinds54:flatK Tryz.prog 4 54=some kfCal:=by kernel_rfl
set_option maxRecDepth 100000 in
theorem lifted (os:Os) (started:os.Started) (H:Type) (enc:TypeId×Value→H) :
    ReturnsInHanded {} Tryz.checked os 9 .any (Rows.callBackSpec.pre6 enc Tryz.prog Tryz.f9 Rows.callBackRow.domain false) (Rows.callBackSpec.post enc Tryz.prog Tryz.f9 false true false false):=by
  refine returnsInHanded_of_change_sized (C:=Tryz.checked) own started (by kernel_rfl) Tryz.func9
    (ChangeSpec.witness6 (enc:=enc) (C:=Tryz.checked) false ⟨#[],#[(.agg #[.int .i64 0,.int .i64 0,.int .i64 0,.int .i64 0]),.slice none 0 0],[]⟩ 8 (by kernel_rfl) (by kernel_rfl) (by kernel_rfl) (by kernel_rfl)) ?_
  intro W base args ds gs before hval0 hW hcnd hsz0 _
  have hval:∀ (j:Nat) t v,Tryz.f9.params[j]?=some t→args[j]?=some v→Value.okWide Tryz.prog W .any base t v:=hval0
  have hW':=hW
  obtain ⟨p,q,hA0,hV,rfl,hfz,hnd⟩:=hW
  have hA:DataW.TrodAll enc Tryz.prog W 0 (fun _=>true) true Tryz.f9.params.toList args.toList ds p:=hA0
  rw [Tryz.params9] at hA hval
  obtain ⟨v0,vs0,d0,ds0,p0,q0,hargs,rfl,rfl,h0,r0⟩:=trodAll_cons hA
  obtain ⟨v1,vs1,d1,ds1,p1,q1,rfl,rfl,rfl,h1,r1⟩:=trodAll_cons r0
  obtain ⟨rfl,rfl,rfl⟩:=trodAll_nil r1
  obtain rfl:args=#[v0,v1]:=by cases args; simp_all
  obtain ⟨rfl,rfl⟩:=trodVars_none hV
  have k0:=h0
  have lt0:∀ x∈p0,x.block<W.heap.size:=by obtain ⟨m,hm⟩:=k0; exact DataW.trod_lt m _ _ _ hm
  obtain ⟨s0,w0⟩:∃ s:Cal,VR (ctx0 W) (.agg (encCal s)) v0:=by
    obtain ⟨m,hm⟩:=h0
    exact open_Cal_v ctx0_B (flat_trod kinds54 hm)
  have k1:=h1
  have lt1:∀ x∈p1,x.block<W.heap.size:=by obtain ⟨m,hm⟩:=k1; exact DataW.trod_lt m _ _ _ hm
  obtain ⟨s1,w1⟩:∃ s:List Int,VR (ctx0 W) (.slv 1 (s.map encI)) v1:=by
    obtain ⟨m,hm⟩:=h1
    exact open_List_v ctx0_B Tryz.underlying27 (hval 1 27 v1 rfl rfl) (flat_trod kinds27 hm)
  clear hA0 hval0 hsz0
  have hc:Con Tryz.prog 9 [.agg (encCal s0),.slv 1 (s1.map encI)] (.bool true,[],[]):=con9 con22
  have hr:ARel (ctx0 W) [.agg (encCal s0),.slv 1 (s1.map encI)] #[v0,v1]:=by
    refine ⟨rfl,fun i x hi=>?_⟩
    have hi':=(List.getElem?_eq_some_iff.1 hi).1
    simp only [List.length_cons,List.length_nil] at hi'
    have hi2:i=0∨i=1:=by omega
    rcases hi2 with rfl | rfl
    · simp at hi; subst hi; exact w0
    · simp at hi; subst hi; exact w1
  refine (row_calls hc W hr).mono fun e W' ⟨he,bel⟩=>?_
  subst he
  exact ⟨_,rfl,_,_,_,[],_,[],hW',trodAll_mk1 (shut_bool Tryz.underlying4 _),(trodAll_cons_mk (Below.trod laidOut (by kernel_rfl) (of_decide_eq_true (by kernel_rfl)) k0 bel lt0) (trodAll_cons_mk (Below.trod laidOut (by kernel_rfl) (of_decide_eq_true (by kernel_rfl)) k1 bel lt1) trodAll_mk0)),rfl,bel.frame _,fun h=>by cases h⟩
theorem rowed:mapsRowed Tryz.prog=true:=by kernel_rfl
theorem jInPlace:(Rows.callBackRow.inPlace == Tryz.prog.inPlace 9)=true:=by kernel_rfl
theorem jUnfollowed:(Rows.callBackRow.unfollowed == Tryz.prog.unfollowed 9)=true:=by kernel_rfl
theorem jRecurses:(Rows.callBackRow.recurses == Tryz.prog.recurses 9)=true:=by kernel_rfl
theorem jNamed:(Rows.callBackRow.named == Tryz.prog.varsNamed 9)=true:=by kernel_rfl
theorem closed:joinedFacts Tryz.prog 9 Tryz.f9 Rows.callBackSpec Rows.callBackRow=true:=by
  unfold joinedFacts
  rw [laidOut,rowed,jInPlace,jUnfollowed,jRecurses,jNamed]
  simp only [Bool.and_true]
  kernel_rfl
theorem over:Rows.callBackRow.holds Tryz.pinned (OpenSpec.ofChange Rows.callBackSpec) :=
  OpenClaim.holds_of_wide 9 Tryz.f9 rfl rfl rfl rfl rfl rfl rfl ⟨rfl,rfl,rfl,rfl,rfl⟩ rfl rfl rfl rfl rfl (by kernel_rfl) Tryz.func9 closed
    (of_decide_eq_true (by kernel_rfl)) (by unfold Func.isWrapper; first | (rw [if_pos (by decide +kernel)]; kernel_rfl) | (rw [if_neg (by decide +kernel)]; exact ⟨rfl,rfl⟩))
    (fun os started H enc _=>lifted os started H enc)
theorem proved:Rows.CallBackSaid:=over
end Go.Sak.callBack
namespace Go.Proofs.YtahdilehajdhgaaGreat
theorem callBack_holds:Rows.CallBackSaid:=Go.Sak.callBack.proved
end Go.Proofs.YtahdilehajdhgaaGreat
#print axioms Go.Proofs.YtahdilehajdhgaaGreat.callBack_holds
