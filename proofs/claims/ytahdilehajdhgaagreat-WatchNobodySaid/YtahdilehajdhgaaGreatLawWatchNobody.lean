/- The statement WatchNobody holds of the program. Conditions: none. -/
import Derived.Test.YtahdilehajdhgaaGreatRows
import Derived.Test.YtahdilehajdhgaaGreatU05
import Derived.Test.YtahdilehajdhgaaGreatU143
import Derived.Test.YtahdilehajdhgaaGreatU144
open Go.Proofs.Tryz renaming prog→Zi
namespace Go.Sak.watchNobody
open Go Go.Sak Go.RowKit Go.Proofs Go.Proofs.YtahdilehajdhgaaGreat Go.ChangeShapes Go.WideShapes Go.ChangeAt
set_option linter.unusedVariables false
theorem own:ownKnob Tryz.prog.godebug=none:=by kernel_rfl
theorem sN:laidOutB Zi=true:=by kernel_rfl
theorem Uw {n:Int} (h:IntKind.u8.min≤n∧n≤IntKind.u8.max):0≤n:=by
  have h1:=h.1
  rw [show IntKind.u8.min=0 from by decide] at h1
  exact h1
theorem Ac:nG Zi 4 33=some lN:=by kernel_rfl
set_option maxRecDepth 100000 in
theorem Cf (os:Os) (started:os.Started) (H:Type) (enc:TypeId×Value→H) :
    ReturnsInHanded {} Tryz.checked os 13 .any (Rows.watchNobodySpec.pre6 enc Zi Tryz.f13 Rows.watchNobodyRow.domain false) (Rows.watchNobodySpec.post enc Zi Tryz.f13 false true false false):=by
  refine returnsInHanded_of_change_sized (C:=Tryz.checked) own started (by kernel_rfl) Tryz.func13
    (ChangeSpec.witness6 (enc:=enc) (C:=Tryz.checked) false ⟨#[],#[(.agg #[.int .i64 0,.int .i64 0,.int .i64 0,.int .i64 0,.int .i64 0,.int .i64 0,.bool false,.int .i64 0,.int .i64 0,.int .i64 0,.slice none 0 0,.slice none 0 0,.slice none 0 0,.int .i64 0,.slice none 0 0,.int .i64 0,.slice none 0 0,.int .i64 0,.slice none 0 0,.slice none 0 0]),.int .i64 0],[]⟩ 8 (by kernel_rfl) (by kernel_rfl) (by kernel_rfl) (by kernel_rfl)) ?_
  intro W base args ds gs before hval0 hW hcnd hsz0 _
  have hval:∀ (j:Nat) t v,Tryz.f13.params[j]?=some t→args[j]?=some v→Value.okWide Zi W .any base t v:=hval0
  have hW':=hW
  obtain ⟨p,q,hA0,hV,rfl,hfz,hnd⟩:=hW
  have hA:DataW.TrodAll enc Zi W 0 (fun _=>true) true Tryz.f13.params.toList args.toList ds p:=hA0
  rw [Tryz.params13] at hA hval
  obtain ⟨v0,vs0,d0,ds0,p0,q0,hargs,rfl,rfl,h0,r0⟩:=trodAll_cons hA
  obtain ⟨v1,vs1,d1,ds1,p1,q1,rfl,rfl,rfl,h1,r1⟩:=trodAll_cons r0
  obtain ⟨rfl,rfl,rfl⟩:=trodAll_nil r1
  obtain rfl:args=#[v0,v1]:=by cases args; simp_all
  obtain ⟨rfl,rfl⟩:=trodVars_none hV
  have k0:=h0
  have lt0:∀ x∈p0,x.block<W.heap.size:=by obtain ⟨m,hm⟩:=k0; exact DataW.trod_lt m _ _ _ hm
  obtain ⟨s0,w0⟩:∃ s:State,VR (rL W) (.agg (bQ s)) v0:=by
    obtain ⟨m,hm⟩:=h0
    exact oN Bw (tW Ac hm)
  obtain ⟨a1,rfl,rfl,rfl,w1⟩:=open_int Tryz.underlying3 (hval 1 3 v1 rfl rfl) h1
  have g1:=(Lit.wf_int_iff _ _).1 w1
  clear hA0 hval0 hsz0
  have hc:bO Zi 13 [.agg (bQ s0),.int .i64 a1] (.bool true,[],[]):=Hn Hq
  have hr:ARel (rL W) [.agg (bQ s0),.int .i64 a1] #[v0,.int .i64 a1]:=by
    refine ⟨rfl,fun i x hi=>?_⟩
    have hi':=(List.getElem?_eq_some_iff.1 hi).1
    simp only [List.length_cons,List.length_nil] at hi'
    have hi2:i=0∨i=1:=by omega
    rcases hi2 with rfl | rfl
    · simp at hi; subst hi; exact w0
    · simp at hi; subst hi; exact .int _ _ g1
  refine (uK hc W hr).mono fun e W' ⟨he,bel⟩=>?_
  subst he
  exact ⟨_,rfl,_,_,_,[],_,[],hW',trodAll_mk1 (shut_bool Tryz.underlying4 _),(trodAll_cons_mk (Below.trod sN (by kernel_rfl) (of_decide_eq_true (by kernel_rfl)) k0 bel lt0) (trodAll_cons_mk (shut_int Tryz.underlying3 w1) trodAll_mk0)),rfl,bel.frame _,fun h=>by cases h⟩
theorem Io:mapsRowed Zi=true:=by kernel_rfl
theorem wO:(Rows.watchNobodyRow.inPlace == Tryz.prog.inPlace 13)=true:=by kernel_rfl
theorem pK:(Rows.watchNobodyRow.unfollowed == Tryz.prog.unfollowed 13)=true:=by kernel_rfl
theorem tY:(Rows.watchNobodyRow.recurses == Tryz.prog.recurses 13)=true:=by kernel_rfl
theorem Cd:(Rows.watchNobodyRow.named == Tryz.prog.varsNamed 13)=true:=by kernel_rfl
theorem Bn:joinedFacts Zi 13 Tryz.f13 Rows.watchNobodySpec Rows.watchNobodyRow=true:=by
  unfold joinedFacts
  rw [sN,Io,wO,pK,tY,Cd]
  simp only [Bool.and_true]
  kernel_rfl
theorem Of:Rows.watchNobodyRow.holds Tryz.pinned (OpenSpec.ofChange Rows.watchNobodySpec) :=
  OpenClaim.holds_of_wide 13 Tryz.f13 rfl rfl rfl rfl rfl rfl rfl ⟨rfl,rfl,rfl,rfl,rfl⟩ rfl rfl rfl rfl rfl (by kernel_rfl) Tryz.func13 Bn
    (of_decide_eq_true (by kernel_rfl)) (by unfold Func.isWrapper; first | (rw [if_pos (by decide +kernel)]; kernel_rfl) | (rw [if_neg (by decide +kernel)]; exact ⟨rfl,rfl⟩))
    (fun os started H enc _=>Cf os started H enc)
theorem proved:Rows.WatchNobodySaid:=Of
end Go.Sak.watchNobody
namespace Go.Proofs.YtahdilehajdhgaaGreat
theorem watchNobody_holds:Rows.WatchNobodySaid:=Go.Sak.watchNobody.proved
end Go.Proofs.YtahdilehajdhgaaGreat
#print axioms Go.Proofs.YtahdilehajdhgaaGreat.watchNobody_holds
