/- The statement CallAlone holds of the program. Conditions: none. -/
import Derived.Test.YtahdilehajdhgaaGreatRows
import Derived.Test.YtahdilehajdhgaaGreatT05
import Derived.Test.YtahdilehajdhgaaGreatT131
import Derived.Test.YtahdilehajdhgaaGreatT127
open Go.Proofs.Tryz renaming prog→D8
namespace Go.Sak.callAlone
open Go Go.Sak Go.RowKit Go.Proofs Go.Proofs.YtahdilehajdhgaaGreat Go.ChangeShapes Go.WideShapes Go.ChangeAt
set_option linter.unusedVariables false
theorem own:ownKnob Tryz.prog.godebug=none:=by kernel_rfl
theorem qW:laidOutB D8=true:=by kernel_rfl
theorem QN {n:Int} (h:IntKind.u8.min≤n∧n≤IntKind.u8.max):0≤n:=by
  have h1:=h.1
  rw [show IntKind.u8.min=0 from by decide] at h1
  exact h1
theorem Gt:wP D8 4 33=some wV:=by kernel_rfl
theorem Gu:wP D8 4 54=some Iv:=by kernel_rfl
set_option maxRecDepth 100000 in
theorem Lq (os:Os) (started:os.Started) (H:Type) (enc:TypeId×Value→H) :
    ReturnsInHanded {} Tryz.checked os 11 .any (Rows.callAloneSpec.pre6 enc D8 Tryz.f11 Rows.callAloneRow.domain false) (Rows.callAloneSpec.post enc D8 Tryz.f11 false true false false):=by
  refine returnsInHanded_of_change_sized (C:=Tryz.checked) own started (by kernel_rfl) Tryz.func11
    (ChangeSpec.witness6 (enc:=enc) (C:=Tryz.checked) false ⟨#[],#[(.agg #[.int .i64 0,.int .i64 0,.int .i64 0,.int .i64 0,.int .i64 0,.int .i64 0,.bool false,.int .i64 0,.int .i64 0,.int .i64 0,.slice none 0 0,.slice none 0 0,.slice none 0 0,.int .i64 0,.slice none 0 0,.int .i64 0,.slice none 0 0,.int .i64 0,.slice none 0 0,.slice none 0 0]),(.agg #[.int .i64 0,.int .i64 0,.int .i64 0,.int .i64 0])],[]⟩ 8 (by kernel_rfl) (by kernel_rfl) (by kernel_rfl) (by kernel_rfl)) ?_
  intro W base args ds gs before hval0 hW hcnd hsz0 _
  have hval:∀ (j:Nat) t v,Tryz.f11.params[j]?=some t→args[j]?=some v→Value.okWide D8 W .any base t v:=hval0
  have hW':=hW
  obtain ⟨p,q,hA0,hV,rfl,hfz,hnd⟩:=hW
  have hA:DataW.TrodAll enc D8 W 0 (fun _=>true) true Tryz.f11.params.toList args.toList ds p:=hA0
  rw [Tryz.params11] at hA hval
  obtain ⟨v0,vs0,d0,ds0,p0,q0,hargs,rfl,rfl,h0,r0⟩:=trodAll_cons hA
  obtain ⟨v1,vs1,d1,ds1,p1,q1,rfl,rfl,rfl,h1,r1⟩:=trodAll_cons r0
  obtain ⟨rfl,rfl,rfl⟩:=trodAll_nil r1
  obtain rfl:args=#[v0,v1]:=by cases args; simp_all
  obtain ⟨rfl,rfl⟩:=trodVars_none hV
  have k0:=h0
  have lt0:∀ x∈p0,x.block<W.heap.size:=by obtain ⟨m,hm⟩:=k0; exact DataW.trod_lt m _ _ _ hm
  obtain ⟨s0,w0⟩:∃ s:State,VR (Bg W) (.agg (bR s)) v0:=by
    obtain ⟨m,hm⟩:=h0
    exact xC Gf (tS Gt hm)
  have k1:=h1
  have lt1:∀ x∈p1,x.block<W.heap.size:=by obtain ⟨m,hm⟩:=k1; exact DataW.trod_lt m _ _ _ hm
  obtain ⟨s1,w1⟩:∃ s:Cal,VR (Bg W) (.agg (lE s)) v1:=by
    obtain ⟨m,hm⟩:=h1
    exact Ck Gf (tS Gu hm)
  clear hA0 hval0 hsz0
  have hc:cX D8 11 [.agg (bR s0),.agg (lE s1)] (.bool true,[],[]):=NY HT
  have hr:ARel (Bg W) [.agg (bR s0),.agg (lE s1)] #[v0,v1]:=by
    refine ⟨rfl,fun i x hi=>?_⟩
    have hi':=(List.getElem?_eq_some_iff.1 hi).1
    simp only [List.length_cons,List.length_nil] at hi'
    have hi2:i=0∨i=1:=by omega
    rcases hi2 with rfl | rfl
    · simp at hi; subst hi; exact w0
    · simp at hi; subst hi; exact w1
  refine (Ey hc W hr).mono fun e W' ⟨he,bel⟩=>?_
  subst he
  exact ⟨_,rfl,_,_,_,[],_,[],hW',trodAll_mk1 (shut_bool Tryz.underlying4 _),(trodAll_cons_mk (Below.trod qW (by kernel_rfl) (of_decide_eq_true (by kernel_rfl)) k0 bel lt0) (trodAll_cons_mk (Below.trod qW (by kernel_rfl) (of_decide_eq_true (by kernel_rfl)) k1 bel lt1) trodAll_mk0)),rfl,bel.frame _,fun h=>by cases h⟩
theorem Zb:mapsRowed D8=true:=by kernel_rfl
theorem Cb:(Rows.callAloneRow.inPlace == Tryz.prog.inPlace 11)=true:=by kernel_rfl
theorem sT:(Rows.callAloneRow.unfollowed == Tryz.prog.unfollowed 11)=true:=by kernel_rfl
theorem yN:(Rows.callAloneRow.recurses == Tryz.prog.recurses 11)=true:=by kernel_rfl
theorem Lo:(Rows.callAloneRow.named == Tryz.prog.varsNamed 11)=true:=by kernel_rfl
theorem Kr:joinedFacts D8 11 Tryz.f11 Rows.callAloneSpec Rows.callAloneRow=true:=by
  unfold joinedFacts
  rw [qW,Zb,Cb,sT,yN,Lo]
  simp only [Bool.and_true]
  kernel_rfl
theorem LQ:Rows.callAloneRow.holds Tryz.pinned (OpenSpec.ofChange Rows.callAloneSpec) :=
  OpenClaim.holds_of_wide 11 Tryz.f11 rfl rfl rfl rfl rfl rfl rfl ⟨rfl,rfl,rfl,rfl,rfl⟩ rfl rfl rfl rfl rfl (by kernel_rfl) Tryz.func11 Kr
    (of_decide_eq_true (by kernel_rfl)) (by unfold Func.isWrapper; first | (rw [if_pos (by decide +kernel)]; kernel_rfl) | (rw [if_neg (by decide +kernel)]; exact ⟨rfl,rfl⟩))
    (fun os started H enc _=>Lq os started H enc)
theorem proved:Rows.CallAloneSaid:=LQ
end Go.Sak.callAlone
namespace Go.Proofs.YtahdilehajdhgaaGreat
theorem callAlone_holds:Rows.CallAloneSaid:=Go.Sak.callAlone.proved
end Go.Proofs.YtahdilehajdhgaaGreat
#print axioms Go.Proofs.YtahdilehajdhgaaGreat.callAlone_holds
