/- Part T02 of the proofs about the program: K, L, M, N, O, Q. Conditions: none. -/
import Derived.Test.YtahdilehajdhgaaGreatT01
import Derived.Laws.StructEq
open Array renaming ext'→X7,getD_eq_getD_getElem?→F0,getElem?_append→T9,getElem?_eq_getElem→M3,getElem?_eq_some_iff→H0,getElem?_toList→U0,map→j9,replicate→T7
open Bool renaming and_eq_true→D9,false_eq_true→G0,not_eq_true'→M8,or_eq_true→H9
open List renaming all_eq_true→G4,ext_getElem?→U1,foldl_append→S8,foldl_cons→N7,foldl_nil→Z2,getD_eq_getElem?_getD→E6,getElem?_append_left→H4,getElem?_eq_getElem→F9,getElem?_eq_none→N8,getElem?_eq_some_iff→F6,getElem?_set→O2,getElem?_take→J6,length_cons→I5,length_nil→L7,map_congr_left→O7,mem_append→N9,mem_filter→P1,mem_map→G5,mem_of_getElem?→I7,mem_range→R2,range→Q2
open Nat renaming add_zero→P7,le_refl→G1,lt_trichotomy→X0,zero_add→L8,zero_le→M6
open Option renaming bind_eq_some_iff→M1,map_eq_some_iff→E7,map_none→R5,map_some→L9
open Option.some renaming inj→E5,injEq→E9
namespace Go.Sak
open Go Go.RowKit
set_option linter.unusedVariables false
set_option linter.unusedSimpArgs false

def QG:Value→Option AV
  | .int k n=>if sF k n then some (.int k n) else none
  | .bool b=>some (.bool b)
  | .string s=>if s.size≤maxLen then some (.str s) else none
  | .pointer none=>some .nilp
  | .slice none 0 0=>some .slnil
  | .map none=>some .mapnil
  | .nilFunc=>some .fnnil
  | .nilIface=>some .ifnil
  | _=>none
def Sk:List Value→Option (List AV)
  | []=>some []
  | v :: vs=>match QG v,Sk vs with
    | some x,some xs=>some (x :: xs)
    | _,_=>none
def Fk (P:Program) (t:TypeId):Option (List AV):=(P.info? t).bind fun i=>i.zero.bind fun z=>Sk z.cells.toList
def AI (P:Program) (t:TypeId):Option AV:=(P.info? t).bind fun i=>i.zero.bind fun z=>match z with
  | .agg cs=>(Sk cs.toList).map .agg
  | v=>QG v
def gL:Operand→Option Opd
  | .tmp t=>some (.tmp t)
  | .const v=>(QG v).map .const
  | .func f=>some (.func f)
  | .global _=>none
def kY:List Operand→Option (List Opd)
  | []=>some []
  | x :: xs=>match gL x,kY xs with
    | some y,some ys=>some (y :: ys)
    | _,_=>none
def Dp (P:Program) (t:TypeId):Option Nat:=(P.info? t).map (·.size)
def qV (P:Program):Nat→List Field→Option (List CK)
  | _,[]=>some []
  | i, f :: fs => if f.name ≠ "_" ∧ f.offset = i then match P.underlying f.type, qV P (i + 1) fs with
      | some (.int k),some ks=>some (.int k :: ks)
      | some .bool,some ks=>some (.bool :: ks)
      | _,_=>none
    else none
def yY (place:Nat→Option (Nat×Nat)):List (Nat×Operand)→Option (List (Nat×Nat×Opd))
  | []=>some []
  | (i,x) :: l=>match place i,gL x,yY place l with
    | some (o,n),some y,some r=>some ((o,n,y) :: r)
    | _,_,_=>none
def Kh:Option Operand→Option (Option Opd)
  | none=>some none
  | some x=>(gL x).map some
def wU:Nat→List (Nat×Operand)→Option (List Operand)
  | _,[]=>some []
  | k,(i,x) :: l=>if i=k then (wU (k+1) l).map (x :: ·) else none

def HO (P:Program) (op:BinOp) (t:TypeId) (x y:Operand):Option AOp :=
  match P.underlying t with
  | some (.int _)=>match gL x,gL y with
    | some a,some b=>some (.bin op a b)
    | _,_=>none
  | some .bool=>match gL x,gL y,op with
    | some a,some b,.eql=>some (.eqb false a b)
    | some a,some b,.neq=>some (.eqb true a b)
    | _,_,_=>none
  | some (.struct fs)=>if P.stoodInHeld t=false∧P.eqGuardType P.depth t=false then match gL x,gL y,op,qV P 0 fs.toList with
    | some a,some b,.eql,some ks=>some (.eqs false ks a b)
    | some a,some b,.neq,some ks=>some (.eqs true ks a b)
    | _,_,_,_=>none
    else none
  | some (.slice _)=>match y with
    | .const (.slice none 0 0)=>match gL x,op with
      | some a,.eql=>some (.eqn false a)
      | some a,.neq=>some (.eqn true a)
      | _,_=>none
    | _=>none
  | _=>none

def Jh (P:Program) (name:String) (t:Nat):Option (Nat×Nat) :=
  match P.info? t with
  | none=>none
  | some i=>match i.methods.find? (·.name == name) with
    | none=>none
    | some m=>match m.path.toList,m.func,P.underlying t with
      | [],some (f,true),some (.pointer _)=>some (t,f)
      | _,_,_=>none
def QF (P:Program) (name:String):List (Nat×Nat):=(Q2 P.types.size).filterMap (Jh P name)
def FV:List (Nat×Nat)→Nat→Option Nat
  | [],_=>none
  | p :: l,t=>if t=p.1 then some p.2 else FV l t
theorem Oc:∀ {l:List (Nat×Nat)} {t f:Nat},FV l t=some f→(t,f)∈l
  | [],t,f,h=>by cases h
  | p :: l,t,f,h=>by
    simp only [FV] at h
    split at h
    · rename_i e; subst e; obtain rfl:=E5 h; exact List.mem_cons_self ..
    · exact List.mem_cons_of_mem _ (Oc h)
theorem GA {P:Program} {name:String} {t f:Nat} (h:FV (QF P name) t=some f):Jh P name t=some (t,f):=by
  obtain ⟨u,h1,h2⟩:=List.mem_filterMap.1 (Oc h)
  have : u=t:=by
    unfold Jh at h2
    split at h2
    · cases h2
    · split at h2
      · cases h2
      · split at h2
        · simp only [E9,Prod.mk.injEq] at h2; exact h2.1
        · cases h2
  rw [← this]; rw [h2,this]

def Kg (P:Program) (c:Call):Option AOp :=
  match c.callee with
  | .value (.func f)=>(kY c.args.toList).map (.call f)
  | .value x=>match gL x,kY c.args.toList with
    | some y,some ys=>some (.callv y ys)
    | _,_=>none
  | .invoke x name=>match gL x,kY c.args.toList with
    | some y,some ys=>some (.invoke y (QF P name) ys)
    | _,_=>none
  | .builtin .len=>match c.args.toList,c.argTypes.toList with
    | [x],[t]=>match P.underlying t,gL x with
      | some (.slice _),some y=>some (.len y)
      | _,_=>none
    | _,_=>none
  | .builtin .min=>match kY c.args.toList with
    | some [x,y]=>some (.mn x y)
    | _=>none
  | .builtin .max=>match kY c.args.toList with
    | some [x,y]=>some (.mx x y)
    | _=>none
  | .builtin .append=>match c.argTypes.toList,kY c.args.toList with
    | [t,t'],some [x,y]=>if t=t' then match P.underlying t with
      | some (.slice e)=>match P.info? e with
        | some i=>if 0<i.size∧(i.zero.map (·.cells.size))=some i.size then some (.app e i.size i.bytes x y) else none
        | none=>none
      | _=>none else none
    | _,_=>none
  | .builtin .copy=>match c.argTypes.toList,kY c.args.toList with
    | [t,_],some [x,y]=>match P.underlying t with
      | some (.slice e)=>(Dp P e).map fun n=>.cpy n x y
      | _=>none
    | _,_=>none
  | .builtin .delete=>match c.argTypes.toList,kY c.args.toList with
    | [t,_],some [x,y]=>match P.underlying t with
      | some (.map k _)=>match P.underlying k with
        | some (.int _)=>some (.mdel x y)
        | _=>none
      | _=>none
    | _,_=>none
  | _=>none

def NH (P:Program) (o:Oper):Option AOp :=
  match o.op with
  | .move x | .assign x=>(gL x).map .mv
  | .pick c a b=>match gL c,gL a,gL b with
    | some c,some a,some b=>some (.pick c a b)
    | _,_,_=>none
  | .extract x i=>(gL x).map (.ext · i)
  | .unOp .not _ x=>(gL x).map .not
  | .binOp op t x y _=>HO P op t x y
  | .convert s d x=>if (P.underlying s).isSome then match P.underlying d with
    | some (.int k)=>(gL x).map (.conv k)
    | _=>none else none
  | .fieldAddr s x fi=>match P.underlying s with
    | some (.struct fs)=>match fs[fi]? with
      | some f=>match Dp P f.type with
        | some n=>if n≠0 then (gL x).map (.faddr f.offset) else none
        | none=>none
      | none=>none
    | _=>none
  | .field t x fi=>match P.underlying t with
    | some (.struct fs)=>match fs[fi]? with
      | some f=>match Dp P f.type,P.underlying f.type with
        | some n,some d=>(gL x).map (.fld f.offset n (Di d))
        | _,_=>none
      | none=>none
    | _=>none
  | .indexAddr t x i=>match P.underlying t with
    | some (.slice e)=>match Dp P e,gL x,gL i with
      | some n,some a,some b=>some (.iaddr n a b)
      | _,_,_=>none
    | some (.array len e)=>match Dp P e,gL x,gL i with
      | some n,some a,some b=>some (.aaddr len n a b)
      | _,_,_=>none
    | _=>none
  | .nilCheck x=>(gL x).map .nilchk
  | .build t parts=>match Fk P t,P.underlying t with
    | some z,some (.struct fs)=>if fs.toList.all (fun f=>((P.info? f.type).map (·.size)).isSome) then
        (yY (fun i=>(fs[i]?).map fun f=>(f.offset,P.cellsOf f.type)) parts.toList).map (.build z) else none
    | some z,some (.array _ e)=>match Dp P e with
      | some n=>(yY (fun i=>some (i * n,n)) parts.toList).map (.build z)
      | none=>none
    | _,_=>none
  | .makeFunc (.func f) a b=>match kY a.toList,kY b.toList with
    | some x,some y=>some (.mkfn (.func f) x y)
    | _,_=>none
  | .makeInterface t x=>if P.concrete t then (gL x).map (.mkif t) else none
  | .typeAssert x _ t ok=>if P.concrete t then (gL x).map (.tassert t ok) else none
  | .slice t x lo hi none=>match P.underlying t with
    | some (.slice e)=>match Dp P e,gL x,Kh lo,Kh hi with
      | some n,some a,some b,some c=>some (.slc n a b c)
      | _,_,_,_=>none
    | _=>none
  | .load t x=>match P.underlying t,Dp P t with
    | some d,some n=>(gL x).map (.ld n (Di d))
    | _,_=>none
  | .store t x v=>match Dp P t,gL x,gL v with
    | some n,some a,some b=>some (.st n a b)
    | _,_,_=>none
  | .lookup t m k ok=>match P.underlying t with
    | some (.map kt et)=>match P.underlying kt,AI P et,gL m,gL k with
      | some (.int _),some z,some a,some b=>some (.lkp z ok a b)
      | _,_,_,_=>none
    | _=>none
  | .mapUpdate t m k v | .insert t m k v=>match P.underlying t with
    | some (.map kt _)=>match P.underlying kt,gL m,gL k,gL v with
      | some (.int _),some a,some b,some c=>some (.mupd a b c)
      | _,_,_,_=>none
    | _=>none
  | .makeMap _ none=>some .mkmap
  | .makeSlice t l c=>match P.underlying t with
    | some (.slice e)=>match P.info? e,Fk P e,gL l,gL c with
      | some i,some z,some a,some b=>if 0<i.size then some (.mkslice e i.size z i.bytes a b) else none
      | _,_,_,_=>none
    | _=>none
  | .alloc t=>(Fk P t).map (.alloc t)
  | .box t x=>(gL x).map (.box t)
  | .buildSlice t n parts=>match P.underlying t with
    | some (.slice e)=>match Dp P e,Fk P e,wU 0 parts.toList with
      | some sz,some (z :: _),some l=>if n * sz≤16777216 then (kY l).map (.bslice e sz n) else none
      | _,_,_=>none
    | _=>none
  | .call c=>Kg P c
  | _=>none

variable {P:Program} {c:Ctx}

theorem Am {v:Value} {x:AV} (h:QG v=some x):VR c x v∧x.one=true:=by
  unfold QG at h
  split at h
  · split at h
    · obtain rfl:=E5 h; exact ⟨.int _ _ (by assumption),rfl⟩
    · cases h
  · obtain rfl:=E5 h; exact ⟨.bool _,rfl⟩
  · split at h
    · obtain rfl:=E5 h; exact ⟨.str _ (by assumption),rfl⟩
    · cases h
  · obtain rfl:=E5 h; exact ⟨.nilp,rfl⟩
  · obtain rfl:=E5 h; exact ⟨.slnil,rfl⟩
  · obtain rfl:=E5 h; exact ⟨.mapnil,rfl⟩
  · obtain rfl:=E5 h; exact ⟨.fnnil,rfl⟩
  · obtain rfl:=E5 h; exact ⟨.ifnil,rfl⟩
  · cases h

theorem Ci:∀ {vs:List Value} {xs:List AV},Sk vs=some xs→vs.length=xs.length∧∀ (i:Nat) (x:AV),xs[i]?=some x→x.one=true∧VR c x (vs.getD i dB)
  | [],xs,h=>by simp only [Sk,E9] at h; subst h; simp
  | v :: vs,xs,h=>by
    simp only [Sk] at h
    split at h
    · rename_i x xs' h1 h2
      obtain rfl:=E5 h
      obtain ⟨k1,k2⟩:=Ci h2
      refine ⟨by simp [k1],fun i y hi=>?_⟩
      cases i with
      | zero=>simp at hi; subst hi; exact ⟨(Am (c:=c) h1).2,by simpa using (Am (c:=c) h1).1⟩
      | succ i=>simpa using k2 i y (by simpa using hi)
    · cases h

theorem pV {t:TypeId} {xs:List AV} (h:Fk P t=some xs):∃ i z,P.info? t=some i∧i.zero=some z∧CR c xs z.cells:=by
  unfold Fk at h
  rw [M1] at h
  obtain ⟨i,hi,h⟩:=h
  rw [M1] at h
  obtain ⟨z,hz,h⟩:=h
  obtain ⟨k1,k2⟩:=Ci (c:=c) h
  exact ⟨i,z,hi,hz,by simpa using k1,fun i x hi=>by simpa [F0,E6] using k2 i x hi⟩

theorem Tm {t:TypeId} {x:AV} (h:AI P t=some x):∃ i z,P.info? t=some i∧i.zero=some z∧VR c x z:=by
  unfold AI at h
  rw [M1] at h
  obtain ⟨i,hi,h⟩:=h
  rw [M1] at h
  obtain ⟨z,hz,h⟩:=h
  refine ⟨i,z,hi,hz,?_⟩
  split at h
  · rename_i cs
    rw [E7] at h
    obtain ⟨xs,h1,rfl⟩:=h
    obtain ⟨k1,k2⟩:=Ci (c:=c) h1
    exact .agg _ _ (by simpa using k1.symm) (fun i x hi=>(k2 i x hi).1) (fun i x hi=>by simpa [F0,E6] using (k2 i x hi).2)
  · exact (Am h).1

theorem bX {x:Operand} {y:Opd} {env:List AV} {a:Act} (h:gL x=some y) (he:ER c env a.tmps):VR c (y.eval env) (a.eval x):=by
  cases x with
  | tmp t=>simp only [gL,E9] at h; subst h; exact he.get t
  | const v =>
    simp only [gL,E7] at h
    obtain ⟨z,h1,rfl⟩:=h
    exact (Am h1).1
  | func f=>simp only [gL,E9] at h; subst h; exact .fn _ _ _ _ _ rfl rfl (by simp) (by simp)
  | global g=>simp [gL] at h

theorem nQ {env:List AV} {a:Act} (he:ER c env a.tmps):∀ {xs:List Operand} {ys:List Opd},kY xs=some ys→xs.length=ys.length ∧
    ∀ (i:Nat) (y:AV),(ys.map (·.eval env))[i]?=some y→VR c y ((xs.map a.eval).getD i dB)
  | [],ys,h=>by simp only [kY,E9] at h; subst h; simp
  | x :: xs,ys,h=>by
    simp only [kY] at h
    split at h
    · rename_i y ys' h1 h2
      obtain rfl:=E5 h
      obtain ⟨k1,k2⟩:=nQ he h2
      refine ⟨by simp [k1],fun i y hi=>?_⟩
      cases i with
      | zero=>simp at hi; subst hi; simpa using bX h1 he
      | succ i=>simpa using k2 i y (by simpa using hi)
    · cases h

theorem vV {env:List AV} {a:Act} (he:ER c env a.tmps) {place:Nat→Option (Nat×Nat)}:∀ {l:List (Nat×Operand)} {r:List (Nat×Nat×Opd)},yY place l=some r →
    PR c place (l.map fun (i,x)=>(i,a.eval x)) (r.map fun (o,n,x)=>(o,n,x.eval env))
  | [],r,h=>by simp only [yY,E9] at h; subst h; exact .nil
  | (i,x) :: l,r,h=>by
    simp only [yY] at h
    split at h
    · rename_i o n y r' h1 h2 h3
      obtain rfl:=E5 h
      exact .cons h1 (bX h2 he) (vV he h3)
    · cases h

theorem qN {w : World} {d:Nat}:∀ {fs:List Field} {i:Nat} {ks:List CK} {xs ys:List AV} {vs us:Array Value} {r:Bool},qV P i fs=some ks →
    (∀ (j:Nat) (x:AV),xs[j]?=some x→VR c x (vs.getD (i+j) dB)∧i+j<vs.size)→(∀ (j:Nat) (x:AV),ys[j]?=some x→VR c x (us.getD (i+j) dB)∧i+j<us.size) →
    kindOk ks xs=true→kindOk ks ys=true→cellsEq xs ys=some r→(Op.eqFields (d+1) vs us fs).run P w=.ok r w
  | [],i,ks,xs,ys,vs,us,r,hk,hx,hy,k1,k2,h=>by
    simp only [qV,E9] at hk; subst hk
    cases xs with
    | nil=>cases ys with
      | nil=>simp only [cellsEq,E9] at h; subst h; simp [Op.eqFields]
      | cons _ _=>simp [kindOk] at k2
    | cons _ _=>simp [kindOk] at k1
  | f :: fs, i,ks,xs,ys,vs,us,r,hk,hx,hy,k1,k2,h=>by
    simp only [qV] at hk
    split at hk
    · rename_i hq
      obtain ⟨hn,ho⟩:=hq
      have cell:∀ (d0:TypeDesc) (zs:Array Value) (v:Value),P.underlying f.type=some d0→Di d0=false→zs.getD i dB=v→i<zs.size→(Go.part f.type zs f.offset).run P w=.ok v w:=by
        intro d0 zs v hd ha hv hlt
        simp only [Go.part,Sem.run_bind,pP hd,ha,Result.andThen_ok,G0,if_false,ho]
        rw [M3 hlt]
        have:zs[i]=v:=by simpa [F0,hlt] using hv
        simp [this]
      split at hk
      · rename_i k ks' hd hks
        obtain rfl:=E5 hk
        cases xs with
        | nil=>simp [kindOk] at k1
        | cons x xs=>cases ys with
          | nil=>simp [kindOk] at k2
          | cons y ys =>
            cases x <;> simp only [kindOk,G0] at k1
            cases y <;> simp only [kindOk,G0] at k2
            rename_i kx a ky b
            rw [D9,decide_eq_true_eq] at k1 k2
            obtain ⟨rfl,k1⟩:=k1
            obtain ⟨rfl,k2⟩:=k2
            simp only [cellsEq,if_pos,E7] at h
            obtain ⟨r',h,rfl⟩:=h
            obtain ⟨hx0,hxl⟩:=hx 0 _ rfl
            obtain ⟨hy0,hyl⟩:=hy 0 _ rfl
            rw [P7] at hx0 hxl hy0 hyl
            generalize hv:vs.getD i dB=v at hx0
            generalize hu:us.getD i dB=u at hy0
            cases hx0; cases hy0
            have c1:=cell _ vs _ hd rfl hv hxl
            have c2:=cell _ us _ hd rfl hu hyl
            have ih:=qN (w:=w) (d:=d) (xs:=xs) (ys:=ys) (vs:=vs) (us:=us) hks (fun j x hj=>by have:=hx (j+1) x (by simpa using hj); rwa [show i+(j+1)=i+1+j from by omega] at this)
              (fun j x hj=>by have:=hy (j+1) x (by simpa using hj); rwa [show i+(j+1)=i+1+j from by omega] at this) k1 k2 h
            simp only [Op.eqFields,if_pos hn,Sem.run_bind,c1,c2,Result.andThen_ok,run_equalIn_int w d f.type k k a b hd]
            by_cases hab:a=b
            · subst hab; simp [ih]
            · have e:(a == b)=false:=by simpa using hab
              simp [e,hab]
      · rename_i ks' hd hks
        obtain rfl:=E5 hk
        cases xs with
        | nil=>simp [kindOk] at k1
        | cons x xs=>cases ys with
          | nil=>simp [kindOk] at k2
          | cons y ys =>
            cases x <;> simp only [kindOk,G0] at k1
            cases y <;> simp only [kindOk,G0] at k2
            rename_i a b
            simp only [cellsEq,E7] at h
            obtain ⟨r',h,rfl⟩:=h
            obtain ⟨hx0,hxl⟩:=hx 0 _ rfl
            obtain ⟨hy0,hyl⟩:=hy 0 _ rfl
            rw [P7] at hx0 hxl hy0 hyl
            generalize hv:vs.getD i dB=v at hx0
            generalize hu:us.getD i dB=u at hy0
            cases hx0; cases hy0
            have c1:=cell _ vs _ hd rfl hv hxl
            have c2:=cell _ us _ hd rfl hu hyl
            have ih:=qN (w:=w) (d:=d) (xs:=xs) (ys:=ys) (vs:=vs) (us:=us) hks (fun j x hj=>by have:=hx (j+1) x (by simpa using hj); rwa [show i+(j+1)=i+1+j from by omega] at this)
              (fun j x hj=>by have:=hy (j+1) x (by simpa using hj); rwa [show i+(j+1)=i+1+j from by omega] at this) k1 k2 h
            simp only [Op.eqFields,if_pos hn,Sem.run_bind,c1,c2,Result.andThen_ok,run_equalIn_bool' w d f.type a b hd]
            cases hab:(a == b)
            · simp
            · simp [ih]
      · cases hk
    · cases hk

theorem EU {iM:Bool} {t:TypeId} {fs:Array Field} {ks:List CK} {x y r:AV} {v u:Value} (ht:P.underlying t=some (.struct fs)) (hs:P.stoodInHeld t=false) (hk:qV P 0 fs.toList=some ks)
    (hx:VR c x v) (hy:VR c y u) (h:aP iM ks x y=some r) (w:World):∃ z,(binOp (if iM then .neq else .eql) t v u).run P w=.ok z w∧VR c r z:=by
  cases x with
  | agg xs => cases y with
    | agg ys =>
      simp only [aP] at h
      split at h
      · rename_i hq
        rw [D9] at hq
        rw [E7] at h
        obtain ⟨b,hb,rfl⟩:=h
        obtain ⟨vs,rfl,h1,h2,h3⟩:=tK hx
        obtain ⟨us,rfl,g1,g2,g3⟩:=tK hy
        have hf:P.fieldsOf t=fs:=by simp [Program.fieldsOf,ht]
        have hrun:=run_equalIn_struct (P:=P) w 9999 t vs us (by rw [hf]; exact ht) hs
        rw [hf,qN (c:=c) (d:=9998) hk (fun j x hj=>⟨by simpa using h3 j x hj,by rw [L8,← h1]; exact (F6.1 hj).1⟩)
          (fun j x hj=>⟨by simpa using g3 j x hj,by rw [L8,← g1]; exact (F6.1 hj).1⟩) hq.1 hq.2 hb] at hrun
        exact ⟨_,sK iM b w rfl rfl hrun,.bool _⟩
      · cases h
    | _=>simp [aP] at h
  | _=>simp [aP] at h

variable {P:Program} {c:Ctx}

def Nx (c:Ctx) (g0:Nat) (r:OR) (o:Oper) (a:Act) (K:Act→World→Prop):Prop :=
  ∀ c' v,Gd c'→St c c'→c'.m=ups c.m r.ups→(∀ n,c'.U n→n=g0∨c.U n)→VR c' r.v v→K (a.put o.dst v) c'.w

theorem jI {o:Oper} {a:Act} {g0:Nat} {r:OR} {s:Sem Value} {K:Act→World→Prop} {Q:Exit→Act→World→Prop} (hx:execOp a.eval o=(do pure (.value (← s)):Sem Next)) (h:Ok P c g0 r s) (hK:Nx c g0 r o a K) :
    o.wp P a c.w K Q:=by
  obtain ⟨c',z,h1,h2,h3,h4,h5,h6⟩:=h
  unfold Oper.wp
  rw [hx]
  simp only [Sem.run_bind,h1,Result.andThen_ok,Sem.run_pure,Oper.upon]
  exact hK c' z h2 h3 h4 h5 h6

theorem fE {o:Oper} {a:Act} {g0:Nat} {r:OR} {s:Sem Value} {K:Act→World→Prop} {Q:Exit→Act→World→Prop} (hc:Gd c) (hx:execOp a.eval o=(do pure (.value (← s)):Sem Next)) (hr:r.ups=[])
    (h:∃ z,s.run P c.w=.ok z c.w∧VR c r.v z) (hK:Nx c g0 r o a K):o.wp P a c.w K Q:=by
  obtain ⟨z,h1,h2⟩:=h
  exact jI hx (Ok.same hc h1 hr h2) hK

theorem vU {o:Oper} {a:Act} {g0:Nat} {r:OR} {s:Sem Unit} {K:Act→World→Prop} {Q:Exit→Act→World→Prop} (hx:execOp a.eval o=(do s; pure .skip:Sem Next))
    (h:∃ c',s.run P c.w=.ok () c'.w∧Gd c'∧St c c'∧c'.m=ups c.m r.ups∧(∀ n,c'.U n→n=g0∨c.U n)∧r.v=.und) (hK:Nx c g0 r o a K):o.wp P a c.w K Q:=by
  obtain ⟨c',h1,h2,h3,h4,h5,h6⟩:=h
  unfold Oper.wp
  rw [hx]
  simp only [Sem.run_bind,h1,Result.andThen_ok,Sem.run_pure,Oper.upon]
  exact hK c' _ h2 h3 h4 h5 (by rw [h6]; exact .und _)

theorem vT {o:Oper} {a:Act} {g0:Nat} {r:OR} {v:Value} {K:Act→World→Prop} {Q:Exit→Act→World→Prop} (hc:Gd c) (hx:execOp a.eval o=(pure (.value v):Sem Next)) (hr:r.ups=[]) (hv:VR c r.v v) (hK:Nx c g0 r o a K) :
    o.wp P a c.w K Q:=by
  unfold Oper.wp
  rw [hx]
  simp only [Sem.run_pure,Oper.upon]
  exact hK c v hc (St.refl c) (by rw [hr]; rfl) (fun _ h=>.inr h) hv

theorem vD {m:Nat→Option Blk} {x:AV} {rd:List Nat} (h:lG m x=some rd) (g row o:Nat) (e:x=.ptr g row o):(m g).isSome=true:=by
  subst e
  simp only [lG] at h
  split at h
  · assumption
  · cases h

theorem Ik {op:BinOp} {t:TypeId} {x y:Operand} {v u:Value} (h:P.eqGuardType P.depth t=false) (hv:∃ cs,v=.agg cs) (w:World):(eqGuard op t x y v u).run P w=.ok () w:=by
  obtain ⟨cs,rfl⟩:=hv
  unfold eqGuard
  cases op <;> cases u <;> simp [h]
theorem pB {op:BinOp} {t:TypeId} {x y:Operand} {v u:Value} (h1:∀ cs,v≠.agg cs) (h2:v≠.nilIface) (w:World):(eqGuard op t x y v u).run P w=.ok () w:=by
  unfold eqGuard
  cases op <;> cases v <;> first | exact absurd rfl (h1 _) | exact absurd rfl h2 | simp

theorem JN {op:BinOp} {t yt:TypeId} {x y:Operand} {o:Oper} {X:AOp} {env:List AV} {a:Act} {g0:Nat} {r:OR} {K:Act→World→Prop} {Q:Exit→Act→World→Prop} (hc:Gd c) (he:ER c env a.tmps)
    (hop:o.op=.binOp op t x y yt) (hx:HO P op t x y=some X) (h:aop c.m env g0 X=some r) (hK:Nx c g0 r o a K):o.wp P a c.w K Q:=by
  have hex:execOp a.eval o=(do pure (.value (← (do eqGuard op t x y (a.eval x) (a.eval y); binOp op t (a.eval x) (a.eval y)))):Sem Next):=by simp only [execOp,hop]
  have fin:∀ (v:AV),r={ v:=v }→(∀ w:World,(eqGuard op t x y (a.eval x) (a.eval y)).run P w=.ok () w)→(∃ z,(binOp op t (a.eval x) (a.eval y)).run P c.w=.ok z c.w∧VR c v z)→o.wp P a c.w K Q:=by
    rintro v rfl h1 ⟨z,h2,h3⟩
    exact fE hc hex rfl ⟨z,by simp only [Sem.run_bind,h1,Result.andThen_ok,h2],h3⟩ hK
  have finr:r.ups=[]→(∀ w:World,(eqGuard op t x y (a.eval x) (a.eval y)).run P w=.ok () w)→(∃ z,(binOp op t (a.eval x) (a.eval y)).run P c.w=.ok z c.w∧VR c r.v z)→o.wp P a c.w K Q:=by
    rintro hu h1 ⟨z,h2,h3⟩
    exact fE hc hex hu ⟨z,by simp only [Sem.run_bind,h1,Result.andThen_ok,h2],h3⟩ hK
  unfold HO at hx
  split at hx
  · split at hx
    · rename_i A B h1 h2
      obtain rfl:=E5 hx
      simp only [aop,E7] at h
      obtain ⟨v,hv,rfl⟩:=h
      have r1:=bX h1 he
      have r2:=bX h2 he
      refine fin v rfl (pB ?_ ?_) (DM r1 r2 hv c.w)
      · intro cs e
        rw [e] at r1
        revert hv r1
        generalize A.eval env=z
        intro hv r1
        cases r1 <;> simp [uH] at hv
      · intro e
        rw [e] at r1
        revert hv r1
        generalize A.eval env=z
        intro hv r1
        cases r1 <;> simp [uH] at hv
    · cases hx
  · rename_i hb
    have go:∀ (iM:Bool) (A B:Opd),op=(if iM then .neq else .eql)→gL x=some A→gL y=some B→X=.eqb iM A B→o.wp P a c.w K Q:=by
      rintro iM A B rfl h1 h2 rfl
      simp only [aop,E7] at h
      obtain ⟨v,hv,rfl⟩:=h
      have r1:=bX h1 he
      have r2:=bX h2 he
      refine fin v rfl (pB ?_ ?_) (ES hb r1 r2 hv c.w)
      · intro cs e
        rw [e] at r1
        revert hv r1
        generalize A.eval env=z
        intro hv r1
        cases r1 <;> simp [doEqb] at hv
      · intro e
        rw [e] at r1
        revert hv r1
        generalize A.eval env=z
        intro hv r1
        cases r1 <;> simp [doEqb] at hv
    split at hx
    · rename_i A B h1 h2; exact go false A B rfl h1 h2 (E5 hx).symm
    · rename_i A B h1 h2; exact go true A B rfl h1 h2 (E5 hx).symm
    · cases hx
  · rename_i fs hs
    split at hx
    · rename_i hq
      have go:∀ (iM:Bool) (A B:Opd) (ks:List CK),op=(if iM then .neq else .eql)→gL x=some A→gL y=some B→qV P 0 fs.toList=some ks→X=.eqs iM ks A B→o.wp P a c.w K Q:=by
        rintro iM A B ks rfl h1 h2 h3 rfl
        simp only [aop,E7] at h
        obtain ⟨v,hv,rfl⟩:=h
        have r1:=bX h1 he
        have r2:=bX h2 he
        refine fin v rfl (Ik hq.2 ?_) (EU hs hq.1 h3 r1 r2 hv c.w)
        revert hv r1
        generalize A.eval env=z
        intro hv r1
        cases z <;> simp [aP] at hv
        obtain ⟨vs,e,_⟩:=tK r1
        exact ⟨vs,e⟩
      split at hx
      · rename_i A B ks h1 h2 h3; exact go false A B ks rfl h1 h2 h3 (E5 hx).symm
      · rename_i A B ks h1 h2 h3; exact go true A B ks rfl h1 h2 h3 (E5 hx).symm
      · cases hx
    · cases hx
  · rename_i e hs
    split at hx
    · have go:∀ (iM:Bool) (A:Opd),op=(if iM then .neq else .eql)→gL x=some A→X=.eqn iM A→o.wp P a c.w K Q:=by
        rintro iM A rfl h1 rfl
        simp only [aop] at h
        have hv:=h
        have r1:=bX h1 he
        obtain ⟨hu,hz⟩:=ET hs r1 h c.w
        refine finr hu (pB ?_ ?_) hz
        · intro cs e
          rw [e] at r1
          revert hv r1
          generalize A.eval env=z
          intro hv r1
          cases r1 <;> simp [oI] at hv
        · intro e
          rw [e] at r1
          revert hv r1
          generalize A.eval env=z
          intro hv r1
          cases r1 <;> simp [oI] at hv
      split at hx
      · rename_i A h1; exact go false A rfl h1 (E5 hx).symm
      · rename_i A h1; exact go true A rfl h1 (E5 hx).symm
      · cases hx
    · cases hx
  · cases hx

theorem DR {cl : Call} {o:Oper} {X:AOp} {env:List AV} {a:Act} {g0:Nat} {r:OR} {K:Act→World→Prop} {Q:Exit→Act→World→Prop} (hc:Gd c) (he:ER c env a.tmps) (hg:¬ c.U g0)
    (hop:o.op=.call cl) (hx:Kg P cl=some X) (h:aop c.m env g0 X=some r) (hK:Nx c g0 r o a K):o.wp P a c.w K Q:=by
  obtain ⟨callee,args,argTypes⟩:=cl
  obtain ⟨args⟩:=args
  obtain ⟨argTypes⟩:=argTypes
  have two : ∀ {X Y:Opd},kY args=some [X,Y]→∃ x y,args=[x,y]∧gL x=some X∧gL y=some Y:=by
    intro X Y hh
    match args with
    | []=>simp [kY] at hh
    | [x] =>
      simp only [kY] at hh
      split at hh
      · rename_i h2
        simp at h2 hh
        subst h2
        simp at hh
      · cases hh
    | [x, y] =>
      simp only [kY] at hh
      split at hh
      · rename_i A As h1 h2
        split at h2
        · rename_i B Bs h3 h4
          simp at h2 hh
          subst h2
          obtain ⟨rfl,e⟩:=hh
          simp at h4
          subst h4
          simp at e
          subst e
          exact ⟨x,y,rfl,h1,h3⟩
        · cases h2
      · cases hh
    | x :: y :: z :: rest =>
      exfalso
      have:=(nQ he hh).1
      simp at this
  unfold Kg at hx
  split at hx
  · simp only [E7] at hx; obtain ⟨_,_,rfl⟩:=hx; simp [aop] at h
  · split at hx
    · obtain rfl:=E5 hx; simp [aop] at h
    · cases hx
  · split at hx
    · obtain rfl:=E5 hx; simp [aop] at h
    · cases hx
  · -- len
    rename_i hcal
    simp only at hcal
    subst hcal
    split at hx
    · rename_i x t ha hta
      simp only at ha hta
      subst ha; subst hta
      split at hx
      · rename_i e Y hs hy
        obtain rfl:=E5 hx
        simp only [aop] at h
        have r1:=bX hy he
        obtain ⟨k1,k2⟩:=FS (ty:=o.type) hs hc r1 h c.w
        exact fE hc (s:=Builtin.len_ #[t] o.type #[a.eval x]) (by simp [execOp,hop,resolve,invoke,builtin]) k1 k2 hK
      · cases hx
    · cases hx
  · -- min
    rename_i hcal
    simp only at hcal
    subst hcal
    split at hx
    · rename_i X Y ha
      obtain ⟨x,y,rfl,h1,h2⟩:=two ha
      obtain rfl:=E5 hx
      simp only [aop,E7] at h
      obtain ⟨v,hv,rfl⟩:=h
      exact fE hc (s:=Builtin.min_ ⟨argTypes⟩ o.type #[a.eval x,a.eval y]) (by simp [execOp,hop,resolve,invoke,builtin]) rfl (LL (bX h1 he) (bX h2 he) hv c.w) hK
    · cases hx
  · -- max
    rename_i hcal
    simp only at hcal
    subst hcal
    split at hx
    · rename_i X Y ha
      obtain ⟨x,y,rfl,h1,h2⟩:=two ha
      obtain rfl:=E5 hx
      simp only [aop,E7] at h
      obtain ⟨v,hv,rfl⟩:=h
      exact fE hc (s:=Builtin.max_ ⟨argTypes⟩ o.type #[a.eval x,a.eval y]) (by simp [execOp,hop,resolve,invoke,builtin]) rfl (LN (bX h1 he) (bX h2 he) hv c.w) hK
    · cases hx
  · -- append
    rename_i hcal
    simp only at hcal
    subst hcal
    split at hx
    · rename_i t t' X Y hta ha
      simp only at hta
      subst hta
      split at hx
      · rename_i htt
        subst htt
        split at hx
        · rename_i e hs
          split at hx
          · rename_i i hi
            split at hx
            · rename_i hq
              obtain rfl:=E5 hx
              obtain ⟨x,y,rfl,h1,h2⟩:=two ha
              obtain ⟨z,hz,hzs⟩:∃ z,i.zero=some z∧z.cells.size=i.size:=by
                have:=hq.2
                rw [E7] at this
                exact this
              simp only [aop] at h
              exact jI (s:=Builtin.append_ #[t,t] o.type #[a.eval x,a.eval y]) (by simp [execOp,hop,resolve,invoke,builtin]) (JL hc hg hs ⟨i,hi,hz,rfl,rfl⟩ hzs hq.1 (bX h1 he) (bX h2 he) h) hK
            · cases hx
          · cases hx
        · cases hx
      · cases hx
    · cases hx
  · -- copy
    rename_i hcal
    simp only at hcal
    subst hcal
    split at hx
    · rename_i t t' X Y hta ha
      simp only at hta
      subst hta
      split at hx
      · rename_i e hs
        rw [E7] at hx
        obtain ⟨n,hn,rfl⟩:=hx
        obtain ⟨x,y,rfl,h1,h2⟩:=two ha
        simp only [aop] at h
        exact jI (g0:=g0) (s:=Builtin.copy_ #[t,t'] o.type #[a.eval x,a.eval y]) (by simp [execOp,hop,resolve,invoke,builtin]) (KN hc hs hn (bX h1 he) (bX h2 he) h) hK
      · cases hx
    · cases hx
  · -- delete
    rename_i hcal
    simp only at hcal
    subst hcal
    split at hx
    · rename_i t t' X Y hta ha
      simp only at hta
      subst hta
      split at hx
      · rename_i k e hs
        split at hx
        · rename_i ik hk
          obtain rfl:=E5 hx
          obtain ⟨x,y,rfl,h1,h2⟩:=two ha
          simp only [aop] at h
          exact jI (g0:=g0) (s:=Builtin.delete_ #[t,t'] o.type #[a.eval x,a.eval y]) (by simp [execOp,hop,resolve,invoke,builtin]) (FX hc hs hk (bX h1 he) (bX h2 he) h) hK
        · cases hx
      · cases hx
    · cases hx
  · cases hx

theorem zH:∀ {l:List (Nat×Operand)} {k:Nat} {xs:List Operand},wU k l=some xs→∀ f:Operand→Value,l.map (fun p=>(p.1,f p.2))=((xs.map f).zipIdx k).map fun x:Value×Nat=>(x.2,x.1)
  | [],k,xs,h,f=>by simp only [wU,E9] at h; subst h; rfl
  | (i,x) :: l,k,xs,h,f=>by
    simp only [wU] at h
    split at h
    · rename_i hik
      subst hik
      rw [E7] at h
      obtain ⟨ys,h1,rfl⟩:=h
      simp [zH h1 f]
    · cases h

theorem LO {o:Oper} {X:AOp} {env:List AV} {a:Act} {g0:Nat} {r:OR} {K:Act→World→Prop} {Q:Exit→Act→World→Prop} (hc:Gd c) (he:ER c env a.tmps) (hg:¬ c.U g0)
    (hx:NH P o=some X) (h:aop c.m env g0 X=some r) (hK:Nx c g0 r o a K):o.wp P a c.w K Q:=by
  unfold NH at hx
  split at hx
  · -- move
    rename_i x hop
    rw [E7] at hx
    obtain ⟨y,h1,rfl⟩:=hx
    simp only [aop,E9] at h; subst h
    exact vT hc (by simp only [execOp,hop]) rfl (bX h1 he) hK
  · -- assign
    rename_i x hop
    rw [E7] at hx
    obtain ⟨y,h1,rfl⟩:=hx
    simp only [aop,E9] at h; subst h
    exact vT hc (by simp only [execOp,hop]) rfl (bX h1 he) hK
  · -- pick
    rename_i x y z hop
    split at hx
    · rename_i A B C h1 h2 h3
      obtain rfl:=E5 hx
      simp only [aop] at h
      split at h
      · rename_i t ht
        obtain rfl:=E5 h
        have r1:=bX h1 he
        rw [ht] at r1
        generalize hb:a.eval x=b at r1
        cases r1
        refine jI (g0:=g0) (s:=do pure (if ← asBool (a.eval x) then a.eval y else a.eval z)) ?_ (Ok.same hc (z:=if t then a.eval y else a.eval z) ?_ rfl ?_) hK
        · simp only [execOp,hop,bind_assoc,pure_bind]
        · simp only [hb,asBool,Sem.run_bind,Sem.run_pure,Result.andThen_ok]
        · cases t
          · exact bX h3 he
          · exact bX h2 he
      · cases h
    · cases hx
  · -- extract
    rename_i x i hop
    rw [E7] at hx
    obtain ⟨y,h1,rfl⟩:=hx
    simp only [aop,E7] at h
    obtain ⟨v,hv,rfl⟩:=h
    exact fE hc (s:=Instr.extract (a.eval x) i) (by simp only [execOp,hop]) rfl (EW (bX h1 he) hv c.w) hK
  · -- not
    rename_i t x hop
    rw [E7] at hx
    obtain ⟨y,h1,rfl⟩:=hx
    simp only [aop,E7] at h
    obtain ⟨v,hv,rfl⟩:=h
    exact fE hc (s:=Op.unary .not (a.eval x)) (by simp only [execOp,hop]) rfl (GD (bX h1 he) hv c.w) hK
  · -- binOp
    rename_i op t x y yt hop
    exact JN hc he hop hx h hK
  · -- convert
    rename_i s d x hop
    split at hx
    · rename_i hs
      split at hx
      · rename_i k hd
        rw [E7] at hx
        obtain ⟨y,h1,rfl⟩:=hx
        simp only [aop,E7] at h
        obtain ⟨v,hv,rfl⟩:=h
        exact fE hc (s:=convert s d (a.eval x)) (by simp only [execOp,hop]) rfl (Wh hs hd (bX h1 he) hv c.w) hK
      · cases hx
    · cases hx
  · -- fieldAddr
    rename_i s x fi hop
    split at hx
    · rename_i fs hs
      split at hx
      · rename_i f hf
        split at hx
        · rename_i n hn
          split at hx
          · rename_i hn0
            rw [E7] at hx
            obtain ⟨y,h1,rfl⟩:=hx
            simp only [aop,M1,E7] at h
            obtain ⟨rd,hl,v,hv,rfl⟩:=h
            exact fE hc (s:=Instr.fieldAt s (a.eval x) fi) (by simp only [execOp,hop]) rfl (Rv hs hf hn hn0 (bX h1 he) (vD hl) hv c.w) hK
          · cases hx
        · cases hx
      · cases hx
    · cases hx
  · -- field
    rename_i t x fi hop
    split at hx
    · rename_i fs hs
      split at hx
      · rename_i f hf
        split at hx
        · rename_i n d hn hd
          rw [E7] at hx
          obtain ⟨y,h1,rfl⟩:=hx
          simp only [aop,E7] at h
          obtain ⟨v,hv,rfl⟩:=h
          exact fE hc (s:=Instr.field t (a.eval x) fi) (by simp only [execOp,hop]) rfl (FA (e:=0) hs hf hd hn (bX h1 he) hv c.w) hK
        · cases hx
      · cases hx
    · cases hx
  · -- indexAddr
    rename_i t x i hop
    split at hx
    · rename_i e hs
      split at hx
      · rename_i n A B hn h1 h2
        obtain rfl:=E5 hx
        simp only [aop] at h
        obtain ⟨k1,k2⟩:=Rz hc hs hn (bX h1 he) (bX h2 he) h c.w
        exact fE hc (s:=Instr.indexAt t (a.eval x) (a.eval i)) (by simp only [execOp,hop]) k1 k2 hK
      · cases hx
    · rename_i len e hs
      split at hx
      · rename_i n A B hn h1 h2
        obtain rfl:=E5 hx
        simp only [aop,M1,E7] at h
        obtain ⟨rd,hl,v,hv,rfl⟩:=h
        exact fE hc (s:=Instr.indexAt t (a.eval x) (a.eval i)) (by simp only [execOp,hop]) rfl (Qo hs hn (bX h1 he) (bX h2 he) (vD hl) hv c.w) hK
      · cases hx
    · cases hx
  · -- nilCheck
    rename_i x hop
    rw [E7] at hx
    obtain ⟨y,h1,rfl⟩:=hx
    simp only [aop,M1,E7] at h
    obtain ⟨rd,hl,v,hv,rfl⟩:=h
    have r1:=bX h1 he
    have hl':=vD hl
    generalize y.eval env=z at r1 hv hl'
    have key:v=z∧execOp a.eval o=(pure (.value (a.eval x)):Sem Next):=by
      generalize hq:a.eval x=q at r1
      cases r1 with
      | ptr g row off ad hU hA =>
        have:=hA (hl' g row off rfl)
        subst this
        simp only [doNilchk,E9] at hv
        exact ⟨hv.symm,by simp only [execOp,hop,hq]⟩
      | pv cells ad us _ _ _ _ _ =>
        simp only [doNilchk,E9] at hv
        exact ⟨hv.symm,by simp only [execOp,hop,hq]⟩
      | fn f fs cs vs us _ _ _ _ =>
        cases f <;> simp only [doNilchk,E9,reduceCtorEq] at hv
        exact ⟨hv.symm,by simp only [execOp,hop,hq]⟩
      | _=>simp [doNilchk] at hv
    obtain ⟨rfl,hex⟩:=key
    exact vT hc hex rfl r1 hK
  · -- build
    rename_i t parts hop
    split at hx
    · rename_i z fs hz hs
      split at hx
      · rename_i hall
        rw [E7] at hx
        obtain ⟨ps,h1,rfl⟩:=hx
        obtain ⟨i,zv,hi,hzv,hcr⟩:=pV (c:=c) hz
        simp only [aop,E7] at h
        obtain ⟨v,hv,rfl⟩:=h
        have:=xM hs ⟨i,hi,hzv⟩ hcr (G4.1 hall) (vV he h1) hv c.w
        have e:(parts.map fun (i,x)=>(i,a.eval x))=(parts.toList.map fun (i,x)=>(i,a.eval x)).toArray:=by apply X7; simp
        exact fE hc (s:=Instr.build t (parts.toList.map fun (i,x)=>(i,a.eval x)).toArray) (by simp only [execOp,hop]; rw [e]) rfl this hK
      · cases hx
    · rename_i z len e hz hs
      split at hx
      · rename_i n hn
        rw [E7] at hx
        obtain ⟨ps,h1,rfl⟩:=hx
        obtain ⟨i,zv,hi,hzv,hcr⟩:=pV (c:=c) hz
        simp only [aop,E7] at h
        obtain ⟨v,hv,rfl⟩:=h
        have:=zU hs ⟨i,hi,hzv⟩ hn hcr (vV he h1) hv c.w
        have e:(parts.map fun (i,x)=>(i,a.eval x))=(parts.toList.map fun (i,x)=>(i,a.eval x)).toArray:=by apply X7; simp
        exact fE hc (s:=Instr.build t (parts.toList.map fun (i,x)=>(i,a.eval x)).toArray) (by simp only [execOp,hop]; rw [e]) rfl this hK
      · cases hx
    · cases hx
  · -- makeFunc
    rename_i f x y hop
    split at hx
    · rename_i A B h1 h2
      obtain rfl:=E5 hx
      simp only [aop,E9] at h; subst h
      obtain ⟨k1,k2⟩:=nQ he h1
      obtain ⟨l1,l2⟩:=nQ he h2
      refine fE hc (s:=Instr.makeFunc (.func f) (x.map a.eval) (y.map a.eval)) (by simp only [execOp,hop]) rfl ⟨_,rfl,.fn _ _ _ _ _ (by simp; simpa using k1.symm) (by simp; simpa using l1.symm) (fun i q hi=>?_) (fun i q hi=>?_)⟩ hK
      · simpa [F0,E6] using k2 i q hi
      · simpa [F0,E6] using l2 i q hi
    · cases hx
  · -- makeInterface
    rename_i t x hop
    split at hx
    · rename_i ht
      rw [E7] at hx
      obtain ⟨y,h1,rfl⟩:=hx
      simp only [aop,E9] at h; subst h
      exact fE hc (s:=Instr.makeInterface t (a.eval x)) (by simp only [execOp,hop]) rfl (Ym ht (bX h1 he) c.w) hK
    · cases hx
  · -- typeAssert
    rename_i x xt t ok hop
    split at hx
    · rename_i ht
      rw [E7] at hx
      obtain ⟨y,h1,rfl⟩:=hx
      simp only [aop,E7] at h
      obtain ⟨v,hv,rfl⟩:=h
      exact fE hc (s:=Instr.typeAssert (a.eval x) xt t ok) (by simp only [execOp,hop]) rfl (Jv ht (bX h1 he) hv c.w) hK
    · cases hx
  · -- slice
    rename_i t x lo hi hop
    split at hx
    · rename_i e hs
      split at hx
      · rename_i n A B C hn h1 h2 h3
        obtain rfl:=E5 hx
        simp only [aop] at h
        have opt:∀ (q:Option Operand) (Y:Option Opd),Kh q=some Y→(Y.map (·.eval env)=none∧q.map a.eval=none)∨∃ y u,Y.map (·.eval env)=some y∧q.map a.eval=some u∧VR c y u:=by
          intro q Y hq
          cases q with
          | none=>simp only [Kh,E9] at hq; subst hq; exact .inl ⟨rfl,rfl⟩
          | some q =>
            simp only [Kh,E7] at hq
            obtain ⟨y,hy,rfl⟩:=hq
            exact .inr ⟨_,_,rfl,rfl,bX hy he⟩
        exact jI (s:=Instr.sliceAt t (a.eval x) (lo.map a.eval) (hi.map a.eval) none) (by simp only [execOp,hop,R5]) (LW hc hg hs hn (bX h1 he) (opt lo B h2) (opt hi C h3) h) hK
      · cases hx
    · cases hx
  · -- load
    rename_i t x hop
    split at hx
    · rename_i d n hd hn
      rw [E7] at hx
      obtain ⟨y,h1,rfl⟩:=hx
      simp only [aop] at h
      obtain ⟨k1,k2⟩:=Xx hc hd hn (bX h1 he) h
      exact fE hc (s:=Instr.loadAt t (a.eval x)) (by simp only [execOp,hop]) k1 k2 hK
    · cases hx
  · -- store
    rename_i t x v hop
    split at hx
    · rename_i n A B hn h1 h2
      obtain rfl:=E5 hx
      simp only [aop] at h
      obtain ⟨c',k1,k2,k3,k4,k5,k6,k7⟩:=LY hc hn (bX h1 he) (bX h2 he) h
      exact vU (s:=Instr.storeAt t (a.eval x) (a.eval v)) (by simp only [execOp,hop]) ⟨c',k1,k2,k3,k4,fun n hn=>by rw [k6] at hn; exact .inr hn,k7⟩ hK
    · cases hx
  · -- lookup
    rename_i t m k ok hop
    split at hx
    · rename_i kt et hs
      split at hx
      · rename_i ik z A B hk hz h1 h2
        obtain rfl:=E5 hx
        simp only [aop] at h
        obtain ⟨i,zv,hi,hzv,hcr⟩:=Tm (c:=c) hz
        exact jI (g0:=g0) (s:=Instr.lookup t (a.eval m) (a.eval k) ok) (by simp only [execOp,hop]) (LJ hc hs hk ⟨i,hi,hzv⟩ hcr (bX h1 he) (bX h2 he) h) hK
      · cases hx
    · cases hx
  · -- mapUpdate
    rename_i t m k v hop
    split at hx
    · rename_i kt et hs
      split at hx
      · rename_i ik A B C hk h1 h2 h3
        obtain rfl:=E5 hx
        simp only [aop] at h
        exact vU (g0:=g0) (s:=Instr.mapUpdate t (a.eval m) (a.eval k) (a.eval v)) (by simp only [execOp,hop]) (Oh hc hs hk (bX h1 he) (bX h2 he) (bX h3 he) h) hK
      · cases hx
    · cases hx
  · -- insert
    rename_i t m k v hop
    split at hx
    · rename_i kt et hs
      split at hx
      · rename_i ik A B C hk h1 h2 h3
        obtain rfl:=E5 hx
        simp only [aop] at h
        exact vU (g0:=g0) (s:=Instr.mapUpdate t (a.eval m) (a.eval k) (a.eval v)) (by simp only [execOp,hop]) (Oh hc hs hk (bX h1 he) (bX h2 he) (bX h3 he) h) hK
      · cases hx
    · cases hx
  · -- makeMap
    rename_i t hop
    obtain rfl:=E5 hx
    simp only [aop,E9] at h; subst h
    obtain ⟨h1,h2⟩:=hc.move (g0:=g0) hg (k:=none) (by simp) (ni:=⟨c.w.heap.size,0,0⟩) (b:=.mp []) (o:=.map #[] 0) (w':=c.w.alloc (.map #[] 0)) rfl rfl rfl (by simp) (.inl rfl) (by simp)
      (by show (c.w.heap.push _)[c.w.heap.size]?=_; simp) (fun i hi _=>Below.heap_alloc _ _ _ hi) ⟨#[],0,rfl,⟨rfl,by simp [Stmp]⟩,by simp⟩
    have hok:Ok P c g0 { v:=.mapm g0,ups:=[(g0,some (.mp []))] } (Instr.makeMap t none):=by
      refine ⟨c.move g0 none ⟨c.w.heap.size,0,0⟩ (.mp []) (c.w.alloc (.map #[] 0)),.map (some c.w.heap.size),?_,h1,h2,by simp [Ctx.move,mC,ups],fun n hn=>hn,?_⟩
      · simp [Instr.makeMap,Ctx.move]
      · exact VR.mapm g0 _ (Or.inl rfl) (fun _=>by simp [Ctx.move])
    exact jI (s:=Instr.makeMap t none) (by simp only [execOp,hop,R5]) hok hK
  · -- makeSlice
    rename_i t l cc hop
    split at hx
    · rename_i e hs
      split at hx
      · rename_i i z A B hi hz h1 h2
        split at hx
        · rename_i hsz
          obtain rfl:=E5 hx
          simp only [aop] at h
          obtain ⟨i',zv,hi',hzv,hcr⟩:=pV (c:=c) hz
          obtain rfl:i=i':=by rw [hi] at hi'; exact E5 hi'
          exact jI (s:=Instr.makeSlice t (a.eval l) (a.eval cc)) (by simp only [execOp,hop]) (Ls hc hg hs ⟨i,hi,hzv,rfl,rfl⟩ hcr hsz (bX h1 he) (bX h2 he) h) hK
        · cases hx
      · cases hx
    · cases hx
  · -- alloc
    rename_i t hop
    rw [E7] at hx
    obtain ⟨z,hz,rfl⟩:=hx
    simp only [aop] at h
    obtain ⟨i,zv,hi,hzv,hcr⟩:=pV (c:=c) hz
    exact jI (s:=Instr.alloc t true (.tuple #[])) (by simp only [execOp,hop]) (Tz hc hg ⟨i,hi,hzv⟩ hcr h) hK
  · -- box
    rename_i t x hop
    rw [E7] at hx
    obtain ⟨y,h1,rfl⟩:=hx
    simp only [aop] at h
    exact jI (s:=Instr.box t (a.eval x)) (by simp only [execOp,hop]) (JO hc hg (bX h1 he) h) hK
  · -- buildSlice
    rename_i t n parts hop
    split at hx
    · rename_i e hs
      split at hx
      · rename_i sz z zs l hn hz hl
        split at hx
        · rename_i hsmall
          rw [E7] at hx
          obtain ⟨ys,h1,rfl⟩:=hx
          simp only [aop] at h
          obtain ⟨i,zv,hi,hzv,hcr⟩:=pV (c:=c) hz
          obtain ⟨k1,k2⟩:=nQ he h1
          have hzip:=zH hl a.eval
          refine jI (s:=Instr.buildSlice t n (((l.map a.eval).zipIdx 0).map fun x:Value×Nat=>(x.2,x.1)).toArray) ?_ (Qu hc hg hs hn ⟨i,hi,hzv⟩ (by rw [hcr.1]; simp) hsmall (by simp [k1]) k2 h) hK
          have e:(parts.map fun (i,x)=>(i,a.eval x))=(parts.toList.map fun (i,x)=>(i,a.eval x)).toArray:=by apply X7; simp
          simp only [execOp,hop]
          rw [← hzip,e]
        · cases hx
      · cases hx
    · cases hx
  · -- call
    rename_i cl hop
    exact DR hc he hg hop hx h hK
  · cases hx


abbrev AM:=List (Nat×Blk)
def AM.get:AM→Nat→Option Blk
  | [],_=>none
  | (k,b) :: l,g=>if g=k then some b else AM.get l g
def AM.del:AM→Nat→AM
  | [],_=>[]
  | (k,b) :: l,g=>if g=k then AM.del l g else (k,b) :: AM.del l g
def AM.rep:AM→Nat→Blk→AM
  | [],g,b=>[(g,b)]
  | (k,b') :: l,g,b=>if g=k then (k,b) :: l else (k,b') :: AM.rep l g b
def AM.upd (m:AM):List (Nat×Option Blk)→AM
  | []=>m
  | (g,some b) :: l=>AM.upd (m.rep g b) l
  | (g,none) :: l=>AM.upd (m.del g) l

theorem AM.get_del:∀ (m:AM) (g:Nat),(m.del g).get=put m.get g none
  | [],g=>by funext n; simp [AM.del,AM.get,put]
  | (k,b) :: l,g=>by
    funext n
    have ih:=congrFun (AM.get_del l g) n
    simp only [put] at ih
    by_cases hk:g=k
    · subst hk
      simp only [AM.del,if_pos,ih,AM.get,put]
      by_cases hn:n=g <;> simp [hn]
    · simp only [AM.del,if_neg hk,AM.get,put,ih]
      by_cases hn:n=k
      · subst hn; simp [Ne.symm hk]
      · simp [hn]
theorem AM.get_rep:∀ (m:AM) (g:Nat) (b:Blk),(m.rep g b).get=put m.get g (some b)
  | [],g,b=>by funext n; simp [AM.rep,AM.get,put]
  | (k,b') :: l,g,b=>by
    funext n
    have ih:=congrFun (AM.get_rep l g b) n
    simp only [put] at ih
    by_cases hk:g=k
    · subst hk
      simp only [AM.rep,if_pos,AM.get,put]
      by_cases hn:n=g <;> simp [hn]
    · simp only [AM.rep,if_neg hk,AM.get,put,ih]
      by_cases hn:n=k
      · subst hn; simp [Ne.symm hk]
      · simp [hn]
theorem AM.get_upd:∀ (u:List (Nat×Option Blk)) (m:AM),(m.upd u).get=ups m.get u
  | [],m=>rfl
  | (g,some b) :: l,m=>by simp only [AM.upd,ups,AM.get_upd l,AM.get_rep]
  | (g,none) :: l,m=>by simp only [AM.upd,ups,AM.get_upd l,AM.get_del]

structure AO where
  dst:Option Nat
  op:AOp
  guard:Option (Nat×Bool)
  after:List Nat

abbrev Ef:=AV×List (Nat×Option Blk)×List Nat
abbrev Ty:=FuncId→List AV→(Nat→Option Blk)→Nat→Option Ef

def mI (g:Option (Nat×Bool)) (env:List AV):Option Bool :=
  match g with
  | none=>some true
  | some (s,want)=>match env.getD s .und with
    | .bool b=>some (b == want)
    | .tup []=>some false
    | _=>none
def qX (env:List AV) (d:Option Nat) (v:AV):List AV :=
  match d with
  | some d=>env.set d v
  | none=>env

def ex (O:Ty) (env:List AV) (m:Nat→Option Blk) (b:Nat):AOp→Option Ef
  | .call f args=>O f (args.map (·.eval env)) m b
  | .callv f args=>match f.eval env with
    | .fn (.func g) first cap=>O g (first ++ args.map (·.eval env) ++ cap) m b
    | _=>none
  | .invoke x tb args=>match x.eval env with
    | .iface t v=>match FV tb t with
      | some g=>O g (v :: args.map (·.eval env)) m b
      | none=>none
    | _=>none
  | x=>(aop m env b x).map fun r=>(r.v,r.ups,r.rd)
def sC (O:Ty) (env:List AV) (m:Nat→Option Blk) (b:Nat) (o:AO):Option Ef :=
  match mI o.guard env with
  | none=>none
  | some false=>some (.tup [],[],[])
  | some true=>ex O env m b o.op

def runD (O:Ty):List AO→Nat→List AV→AM→Option (List AV×AM×List Ef)
  | [],_,env,m=>some (env,m,[])
  | o :: rest,b,env,m=>match sC O env m.get b o with
    | none=>none
    | some e=>match runD O rest (b+16) (qX env o.dst e.1) (m.upd e.2.1) with
      | none=>none
      | some (env',m',tr)=>some (env',m',e :: tr)

section reorder
variable {L V:Type} [DecidableEq L]

def lB (δ:List (L×V)) (ℓ:L):Option V:=δ.foldl (fun acc p=>if p.1=ℓ then some p.2 else acc) none
def val (σ0:L→V) (δ:Nat→List (L×V)) (n:Nat) (S:Nat→Bool) (ℓ:L):V:=(Q2 n).foldl (fun acc k=>if S k then (lB (δ k) ℓ).getD acc else acc) (σ0 ℓ)

theorem kL {α β:Type} (f g:β→α→β):∀ (l:List α) (x:β),(∀ a,a∈l→∀ y,f y a=g y a)→l.foldl f x=l.foldl g x
  | [],x,_=>rfl
  | a :: l,x,h=>by
    simp only [N7]
    rw [h a (by simp) x]
    exact kL f g l _ fun b hb=>h b (by simp [hb])

theorem kX {σ0:L→V} {δ:Nat→List (L×V)} {n:Nat} {S T:Nat→Bool} {ℓ:L} (h:∀ k,k<n→(lB (δ k) ℓ).isSome=true→S k=T k):val σ0 δ n S ℓ=val σ0 δ n T ℓ:=by
  unfold val
  refine kL _ _ _ _ fun k hk y=>?_
  cases hl:lB (δ k) ℓ with
  | none=>simp
  | some v=>rw [h k (R2.1 hk) (by simp [hl])]

theorem Jz {σ0:L→V} {δ:Nat→List (L×V)} {n:Nat} {S:Nat→Bool} {ℓ:L}:val σ0 δ (n+1) S ℓ=if S n then (lB (δ n) ℓ).getD (val σ0 δ n S ℓ) else val σ0 δ n S ℓ:=by
  unfold val
  rw [List.range_succ,S8]
  rfl

theorem rH {σ0:L→V} {δ:Nat→List (L×V)} {S:Nat→Bool} {ℓ:L} {k:Nat}:∀ {n:Nat},k<n→S k=false→(∀ j,k<j→j<n→S j=true→(lB (δ k) ℓ).isSome=true→lB (δ j) ℓ=none) →
    val σ0 δ n (fun j=>S j || decide (j=k)) ℓ=(lB (δ k) ℓ).getD (val σ0 δ n S ℓ)
  | 0,h,_,_=>by omega
  | n + 1, h,hS,hj=>by
    rw [Jz,Jz]
    by_cases hk:k=n
    · subst hk
      have e:val σ0 δ k (fun j=>S j || decide (j=k)) ℓ=val σ0 δ k S ℓ:=kX fun j hj _=>by
        have:¬ j=k:=by omega
        simp [this]
      simp [hS,e]
    · have ih:=rH (σ0:=σ0) (δ:=δ) (S:=S) (ℓ:=ℓ) (k:=k) (n:=n) (by omega) hS (fun j h1 h2=>hj j h1 (by omega))
      have hn:(S n || decide (n=k))=S n:=by
        have:¬ n=k:=by omega
        simp [this]
      rw [hn]
      cases hs:S n with
      | false=>simpa using ih
      | true =>
        simp only [if_true]
        cases hl:lB (δ k) ℓ with
        | none =>
          rw [hl] at ih
          simp only [Option.getD_none] at ih ⊢
          rw [ih]
        | some v =>
          rw [hl] at ih
          have:=hj n (by omega) (by omega) hs (by simp [hl])
          rw [this]
          simpa using ih
end reorder

def sZ:Opd→List Nat
  | .tmp t=>[t]
  | _=>[]
def Cj (l:List Opd):List Nat:=l.flatMap sZ
def Yq:Option Opd→List Nat
  | some x=>sZ x
  | none=>[]
def AOp.tmps:AOp→List Nat
  | .mv x | .ext x _ | .not x | .eqn _ x | .conv _ x | .faddr _ x | .fld _ _ _ x | .nilchk x | .mkif _ x | .tassert _ _ x | .len x | .ld _ _ x | .box _ x=>sZ x
  | .pick c a b=>sZ c ++ sZ a ++ sZ b
  | .bin _ x y | .eqb _ x y | .eqs _ _ x y | .iaddr _ x y | .aaddr _ _ x y | .mn x y | .mx x y | .app _ _ _ x y | .cpy _ x y | .st _ x y | .lkp _ _ x y | .mdel x y | .mkslice _ _ _ _ x y=>sZ x ++ sZ y
  | .mupd x y z=>sZ x ++ sZ y ++ sZ z
  | .build _ ps=>ps.flatMap fun p=>sZ p.2.2
  | .mkfn _ a b=>Cj a ++ Cj b
  | .slc _ x lo hi=>sZ x ++ Yq lo ++ Yq hi
  | .bslice _ _ _ l=>Cj l
  | .alloc _ _ | .mkmap=>[]
  | .call _ l=>Cj l
  | .callv f l=>sZ f ++ Cj l
  | .invoke x _ l=>sZ x ++ Cj l
def AO.tmps (o:AO):List Nat:=o.op.tmps ++ (match o.guard with | some (s,_)=>[s] | none=>[])

theorem bW {x:Opd} {env env':List AV} (h:∀ t,t∈sZ x→env'.getD t .und=env.getD t .und):x.eval env'=x.eval env:=by
  cases x with
  | tmp t=>exact h t (by simp [sZ])
  | _=>rfl
theorem mE {l:List Opd} {env env':List AV} (h:∀ t,t∈Cj l→env'.getD t .und=env.getD t .und):l.map (·.eval env')=l.map (·.eval env):=by
  refine O7 fun x hx=>bW fun t ht=>h t ?_
  exact List.mem_flatMap.2 ⟨x,hx,ht⟩

theorem rA {m m':Nat→Option Blk} {sz:Nat} {x:AV} {xs:List (List AV)} {rd:List Nat} (h:rowsOf m sz x=some (xs,rd)) (hm:∀ g,g∈rd→m' g=m g):rowsOf m' sz x=some (xs,rd):=by
  cases x <;> simp only [rowsOf] at h ⊢ <;> try exact h
  rename_i g len
  split at h
  · rename_i t sz' rs hg
    split at h
    · simp only [E9,Prod.mk.injEq] at h
      obtain ⟨rfl,rfl⟩:=h
      rw [hm g (by simp),hg]
      rename_i hq
      simp [hq]
    · cases h
  · cases h

theorem DJ {m:Nat→Option Blk} {env env':List AV} {b:Nat} {x:AOp} (h:∀ t,t∈x.tmps→env'.getD t .und=env.getD t .und):aop m env' b x=aop m env b x:=by
  cases x <;> simp only [AOp.tmps,N9] at h <;> simp only [aop]
  case mv x=>rw [bW h]
  case pick c a d=>rw [bW (fun t ht=>h t (.inl (.inl ht))),bW (x:=a) (fun t ht=>h t (.inl (.inr ht))),bW (x:=d) (fun t ht=>h t (.inr ht))]
  case ext x i=>rw [bW h]
  case not x=>rw [bW h]
  case bin op x y=>rw [bW (fun t ht=>h t (.inl ht)),bW (x:=y) (fun t ht=>h t (.inr ht))]
  case eqb n x y=>rw [bW (fun t ht=>h t (.inl ht)),bW (x:=y) (fun t ht=>h t (.inr ht))]
  case eqs n k x y=>rw [bW (fun t ht=>h t (.inl ht)),bW (x:=y) (fun t ht=>h t (.inr ht))]
  case eqn n x=>rw [bW h]
  case conv k x=>rw [bW h]
  case faddr o x=>rw [bW h]
  case fld o n a x=>rw [bW h]
  case iaddr s x y=>rw [bW (fun t ht=>h t (.inl ht)),bW (x:=y) (fun t ht=>h t (.inr ht))]
  case aaddr l s x y=>rw [bW (fun t ht=>h t (.inl ht)),bW (x:=y) (fun t ht=>h t (.inr ht))]
  case nilchk x=>rw [bW h]
  case build z ps =>
    have:(ps.map fun (o,n,x)=>(o,n,x.eval env'))=(ps.map fun (o,n,x)=>(o,n,x.eval env)):=O7 fun p hp=>by
      obtain ⟨o,n,x⟩:=p
      simp only [Prod.mk.injEq,true_and]
      exact bW fun t ht=>h t (List.mem_flatMap.2 ⟨_,hp,ht⟩)
    rw [this]
  case mkfn f a d=>rw [mE (fun t ht=>h t (.inl ht)),mE (l:=d) (fun t ht=>h t (.inr ht))]
  case mkif t x=>rw [bW h]
  case tassert t o x=>rw [bW h]
  case slc s x lo hi =>
    have e:∀ q:Option Opd,(∀ t,t∈Yq q→env'.getD t .und=env.getD t .und)→q.map (·.eval env')=q.map (·.eval env):=by
      intro q hq
      cases q with
      | none=>rfl
      | some y=>simp only [L9,E9]; exact bW hq
    rw [bW (fun t ht=>h t (.inl (.inl ht))),e lo (fun t ht=>h t (.inl (.inr ht))),e hi (fun t ht=>h t (.inr ht))]
  case len x=>rw [bW h]
  case mn x y=>rw [bW (fun t ht=>h t (.inl ht)),bW (x:=y) (fun t ht=>h t (.inr ht))]
  case mx x y=>rw [bW (fun t ht=>h t (.inl ht)),bW (x:=y) (fun t ht=>h t (.inr ht))]
  case app t s k x y=>rw [bW (fun t ht=>h t (.inl ht)),bW (x:=y) (fun t ht=>h t (.inr ht))]
  case cpy s x y=>rw [bW (fun t ht=>h t (.inl ht)),bW (x:=y) (fun t ht=>h t (.inr ht))]
  case ld n a x=>rw [bW h]
  case st n x y=>rw [bW (fun t ht=>h t (.inl ht)),bW (x:=y) (fun t ht=>h t (.inr ht))]
  case lkp z o x y=>rw [bW (fun t ht=>h t (.inl ht)),bW (x:=y) (fun t ht=>h t (.inr ht))]
  case mupd x y z=>rw [bW (fun t ht=>h t (.inl (.inl ht))),bW (x:=y) (fun t ht=>h t (.inl (.inr ht))),bW (x:=z) (fun t ht=>h t (.inr ht))]
  case mdel x y=>rw [bW (fun t ht=>h t (.inl ht)),bW (x:=y) (fun t ht=>h t (.inr ht))]
  case box t x=>rw [bW h]
  case bslice t s n l=>rw [mE h]
  case mkslice t s z k x y=>rw [bW (fun t ht=>h t (.inl ht)),bW (x:=y) (fun t ht=>h t (.inr ht))]

theorem DK {m m' : Nat → Option Blk} {env:List AV} {b:Nat} {x:AOp} {r:OR} (h:aop m env b x=some r) (hm:∀ g,g∈r.rd→m' g=m g):aop m' env b x=some r:=by
  have live:∀ {x:AV} {rd:List Nat},lG m x=some rd→(∀ g,g∈rd→m' g=m g)→lG m' x=some rd:=by
    intro x rd h1 h2
    cases x <;> simp only [lG] at h1 ⊢ <;> try exact h1
    split at h1
    · obtain rfl:=E5 h1
      rename_i g _ _ hg
      rw [h2 g (by simp),if_pos hg]
    · cases h1
  cases x <;> simp only [aop] at h ⊢ <;> try exact h
  case faddr o x =>
    simp only [M1,E7] at h ⊢
    obtain ⟨rd,h1,v,h2,rfl⟩:=h
    exact ⟨rd,live h1 hm,v,h2,rfl⟩
  case aaddr l s x y =>
    simp only [M1,E7] at h ⊢
    obtain ⟨rd,h1,v,h2,rfl⟩:=h
    exact ⟨rd,live h1 hm,v,h2,rfl⟩
  case nilchk x =>
    simp only [M1,E7] at h ⊢
    obtain ⟨rd,h1,v,h2,rfl⟩:=h
    exact ⟨rd,live h1 hm,v,h2,rfl⟩
  case iaddr s x y =>
    revert h
    generalize x.eval env=x; generalize y.eval env=y
    intro h
    cases x <;> cases y <;> simp only [eN] at h ⊢ <;> try exact h
    split at h
    · rename_i hg
      split at h
      · obtain rfl:=E5 h
        rw [hm _ (by simp),hg]
        simp [*]
      · cases h
    · cases h
  case slc s x lo hi =>
    revert h
    generalize x.eval env=x; generalize lo.map (·.eval env)=lo; generalize hi.map (·.eval env)=hi
    intro h
    cases x <;> try exact h
    cases lo with
    | some _=>simp [lS] at h
    | none => cases hi with
      | none=>simp [lS] at h
      | some y => cases y <;> simp only [lS,reduceCtorEq] at h ⊢
                  split at h
                  · rename_i hg
                    split at h
                    · rename_i hq
                      obtain ⟨rfl,q1,q2,rfl⟩:=hq
                      obtain rfl:=E5 h
                      rw [hm _ (by simp),hg]
                      simp [q1,q2]
                    · cases h
                  · cases h
  case eqn iM x =>
    revert h
    generalize x.eval env=x
    intro h
    cases x with
    | slm g l =>
      simp only [oI] at h ⊢
      split at h
      · rename_i hg
        obtain rfl:=E5 h
        rw [hm _ (by simp),hg]
      · cases h
    | slv s l=>cases l <;> exact h
    | _=>exact h
  case len x =>
    revert h
    generalize x.eval env=x
    intro h
    cases x <;> simp only [lD] at h ⊢ <;> try exact h
    split at h
    · rename_i hg
      split at h
      · obtain rfl:=E5 h
        rw [hm _ (by simp),hg]
        simp [*]
      · cases h
    · cases h
  case app t s k x y =>
    revert h
    generalize x.eval env=x; generalize y.eval env=y
    intro h
    simp only [doApp] at h ⊢
    split at h
    · cases h
    · rename_i xs rd hr
      split at h
      · split at h
        · obtain rfl:=E5 h
          rw [rA hr hm]
          simp [*]
        · cases h
      · split at h
        · rename_i hg
          split at h
          · obtain rfl:=E5 h
            rw [rA hr (fun g hg=>hm g (by simp [hg])),hm _ (by simp),hg]
            simp [*]
          · cases h
        · cases h
      · cases h
  case cpy s x y =>
    revert h
    generalize x.eval env=x; generalize y.eval env=y
    intro h
    simp only [wI] at h ⊢
    split at h
    · cases h
    · rename_i xs rd hr
      split at h
      · split at h
        · rename_i hg
          split at h
          · obtain rfl:=E5 h
            rw [rA hr (fun g hg=>hm g (by simp [hg])),hm _ (by simp),hg]
            simp [*]
          · cases h
        · cases h
      · cases h
  case ld n a x =>
    revert h
    generalize x.eval env=x
    intro h
    cases x <;> simp only [cS] at h ⊢ <;> try exact h
    split at h
    · rename_i hg
      split at h
      · rename_i r0 hr
        rw [E7] at h
        obtain ⟨v,h1,rfl⟩:=h
        rw [hm _ (by simp),hg]
        simp only [hr,h1,L9]
      · cases h
    · cases h
  case st n x y =>
    revert h
    generalize x.eval env=x; generalize y.eval env=y
    intro h
    cases x <;> simp only [cW] at h ⊢ <;> try exact h
    split at h
    · rename_i hg
      split at h
      · rename_i r0 hr
        split at h
        · obtain rfl:=E5 h
          rw [hm _ (by simp),hg]
          simp only [hr]
          rename_i hq
          rw [if_pos hq]
        · cases h
      · cases h
    · cases h
  case lkp z o x y =>
    revert h
    generalize x.eval env=x; generalize y.eval env=y
    intro h
    cases x <;> simp only [fM] at h ⊢ <;> try exact h
    split at h
    · rename_i hg
      split at h
      · rename_i hi
        rw [E7] at h
        obtain ⟨v,h1,rfl⟩:=h
        rw [hm _ (by simp),hg]
        simp only [hi,if_true,h1,L9]
      · cases h
    · cases h
  case mupd x y z =>
    revert h
    generalize x.eval env=x; generalize y.eval env=y; generalize z.eval env=z
    intro h
    cases x <;> simp only [dV] at h ⊢ <;> try exact h
    split at h
    · rename_i hg
      split at h
      · rename_i hi
        rw [E7] at h
        obtain ⟨v,h1,rfl⟩:=h
        rw [hm _ (by simp),hg]
        simp only [hi,if_true,h1,L9]
      · cases h
    · cases h
  case mdel x y =>
    revert h
    generalize x.eval env=x; generalize y.eval env=y
    intro h
    cases x <;> simp only [qL] at h ⊢ <;> try exact h
    split at h
    · rename_i hg
      split at h
      · rename_i hi
        rw [E7] at h
        obtain ⟨v,h1,rfl⟩:=h
        rw [hm _ (by simp),hg]
        simp only [hi,if_true,h1,L9]
      · cases h
    · cases h

def Fo (O:Ty):Prop:=∀ f args (m m':Nat→Option Blk) b e,O f args m b=some e→(∀ g,g∈e.2.2→m' g=m g)→O f args m' b=some e

theorem Jt {O:Ty} (hO:Fo O) {env env':List AV} {m m':Nat→Option Blk} {b:Nat} {o:AO} {e:Ef} (h:sC O env m b o=some e) (he:∀ t,t∈o.tmps→env'.getD t .und=env.getD t .und)
    (hm:∀ g,g∈e.2.2→m' g=m g):sC O env' m' b o=some e:=by
  have hg:mI o.guard env'=mI o.guard env:=by
    unfold mI
    cases hgd:o.guard with
    | none=>rfl
    | some p=>simp only; rw [he p.1 (by simp [AO.tmps,hgd])]
  unfold sC at h ⊢
  rw [hg]
  split at h
  · cases h
  · exact h
  · have he':∀ t,t∈o.op.tmps→env'.getD t .und=env.getD t .und:=fun t ht=>he t (by simp [AO.tmps,ht])
    revert h he'
    generalize o.op=x
    intro h he'
    unfold ex at h ⊢
    split at h
    · simp only [AOp.tmps] at he'
      rw [mE he']
      exact hO _ _ _ _ _ _ h hm
    · simp only [AOp.tmps,N9] at he'
      rw [bW (fun t ht=>he' t (.inl ht)),mE (fun t ht=>he' t (.inr ht))]
      split at h
      · exact hO _ _ _ _ _ _ h hm
      · cases h
    · simp only [AOp.tmps,N9] at he'
      rw [bW (fun t ht=>he' t (.inl ht)),mE (fun t ht=>he' t (.inr ht))]
      split at h
      · split at h
        · exact hO _ _ _ _ _ _ h hm
        · cases h
      · cases h
    · rename_i h1 h2 h3
      rw [E7] at h
      obtain ⟨r,hr,rfl⟩:=h
      have:=DK (m':=m') hr hm
      rw [← DJ he'] at this
      rw [this]; rfl


def ARel (c:Ctx) (xs:List AV) (vs:Array Value):Prop:=xs.length=vs.size∧∀ (i:Nat) (x:AV),xs[i]?=some x→VR c x (vs.getD i dB)
theorem ARel.mono {c c':Ctx} (h:St c c') {xs:List AV} {vs:Array Value} (hx:ARel c xs vs):ARel c' xs vs:=⟨hx.1,fun i x hi=>(hx.2 i x hi).mono h⟩
theorem ARel.append {c:Ctx} {xs ys:List AV} {vs us:Array Value} (h1:ARel c xs vs) (h2:ARel c ys us):ARel c (xs ++ ys) (vs ++ us):=by
  refine ⟨by simp [h1.1,h2.1],fun i x hi=>?_⟩
  by_cases hl:i<xs.length
  · rw [H4 hl] at hi
    have:=h1.2 i x hi
    have hv:i<vs.size:=by rw [← h1.1]; exact hl
    simpa [F0,T9,hv] using this
  · rw [List.getElem?_append_right (by omega)] at hi
    have:=h2.2 _ x hi
    have hv:¬ i<vs.size:=by rw [← h1.1]; exact hl
    rw [h1.1] at this
    simpa [F0,T9,hv] using this

def mM (P : Program) (f : FuncId) : Prop := ∃ fn, P.funcs[f]? = some fn ∧ (fn.name == "runtime.NumGoroutine") = false ∧ fn.body.isNone = false

def MC (P:Program) (f:FuncId) (args:List AV) (e:Ef) (m:Nat→Option Blk) (b:Nat):Prop :=
  mM P f∧∀ c:Ctx,Gd c→c.m=m→(∀ n,b≤n→n<b+16→¬ c.U n)→∀ vs,ARel c args vs →
    Calls P f vs c.w fun en w'=>∃ c' z,en=.returned z∧c'.w=w'∧Gd c'∧St c c'∧c'.m=ups m e.2.1∧(∀ n,c'.U n→(b≤n∧n<b+16)∨c.U n)∧VR c' e.1 z
def Ar (P:Program) (O:Ty):Prop:=∀ f args m b e,O f args m b=some e→MC P f args e m b

section
variable {P:Program} {O:Ty}

def Fq (o:Oper):List Nat:=(o.after.toList.filter (Region.binds .any)).map (·.on)
def De (ops:Array Oper):Option (Nat×Bool)→Option (Option (Nat×Bool))
  | none=>some none
  | some (j,want)=>match (ops[j]?).bind (·.dst) with
    | some d=>some (some (d,want))
    | none=>none
def NG (P:Program) (ops:Array Oper) (o:Oper):Option AO :=
  match NH P o,De ops o.guard with
  | some x,some g=>some { dst:=o.dst,op:=x,guard:=g,after:=Fq o }
  | _,_=>none

theorem Mj {ops:Array Oper} {o:Oper} {x:AO} (h:NG P ops o=some x):NH P o=some x.op∧De ops o.guard=some x.guard∧x.dst=o.dst∧x.after=Fq o:=by
  unfold NG at h
  split at h
  · rename_i h1 h2
    obtain rfl:=E5 h
    exact ⟨h1,h2,rfl,rfl⟩
  · cases h

theorem Fh {c:Ctx} {ops:Array Oper} {o:Oper} {g:Option (Nat×Bool)} {env:List AV} {a:Act} {t:Bool} (hg:De ops o.guard=some g) (he:ER c env a.tmps) (h:mI g env=some t):Region.wanted o (yielded ops a.tmps)=t:=by
  unfold Region.wanted
  cases hog:o.guard with
  | none =>
    rw [hog] at hg
    simp only [De,E9] at hg
    subst hg
    simp only [mI,E9] at h
    exact h
  | some p =>
    obtain ⟨j,want⟩:=p
    rw [hog] at hg
    simp only [De] at hg
    split at hg
    · rename_i d hd
      obtain rfl:=E5 hg
      simp only [mI] at h
      have hr:=he.get d
      simp only [yielded,hd,Option.bind_some]
      by_cases hlt:d<a.tmps.size
      · have e:a.tmps[d]?=some (a.tmps.getD d dB):=by simp [F0,hlt]
        rw [e]
        split at h
        · rename_i b hb
          rw [hb] at hr
          generalize a.tmps.getD d dB=v at hr
          cases hr
          simp only [E9] at h
          subst h
          simp
        · rename_i hb
          rw [hb] at hr
          generalize a.tmps.getD d dB=v at hr
          cases hr
          simp only [E9] at h
          subst h
          simp
        · cases h
      · have:env.getD d .und=.und:=by rw [E6,N8 (by rw [he.1]; exact Nat.le_of_not_lt hlt)]; rfl
        rw [this] at h
        cases h
    · cases hg

theorem Jm {c:Ctx} {env:List AV} {a:Act} {d:Option Nat} {x:AV} {v:Value} (he:ER c env a.tmps) (hx:VR c x v):ER c (qX env d x) (a.put d v).tmps:=by
  cases d with
  | none=>exact he
  | some d=>exact he.set d hx

theorem nK {f:FuncId} (h:mM P f) (args:Array Value) (w:World):(callFunc f args).run P w=.ok (.enter f args) w:=by
  obtain ⟨fn,h1,h2,h3⟩:=h
  simp only [callFunc,Sem.run_bind,run_program,Result.andThen_ok,h1,h2,h3,G0,if_false,Sem.run_pure]

theorem Aw {c:Ctx} {env:List AV} {a:Act} {xs:List Operand} {ys:List Opd} (h:kY xs=some ys) (he:ER c env a.tmps):ARel c (ys.map (·.eval env)) (xs.map a.eval).toArray:=by
  obtain ⟨h1,h2⟩:=nQ he h
  refine ⟨by simp [h1],fun i x hi=>?_⟩
  have:=h2 i x hi
  simpa [F0,E6] using this

def target (env:List AV):AOp→Option (FuncId×List AV)
  | .call f args=>some (f,args.map (·.eval env))
  | .callv x args=>match x.eval env with
    | .fn (.func g) first cap=>some (g,first ++ args.map (·.eval env) ++ cap)
    | _=>none
  | .invoke x tb args=>match x.eval env with
    | .iface t v=>match FV tb t with
      | some g=>some (g,v :: args.map (·.eval env))
      | none=>none
    | _=>none
  | _=>none
theorem Cp {f:FuncId} {t:Nat} {name:String} (h:mM P f) (hm:Jh P name t=some (t,f)) (v:Value) (args:Array Value) (w:World) :
    (callMethod (.iface t v) name args).run P w=.ok (.enter f (#[v] ++ args)) w:=by
  unfold Jh at hm
  split at hm
  · cases hm
  · rename_i i hi
    split at hm
    · cases hm
    · rename_i m hf
      split at hm
      · rename_i pt hp hfn hu
        simp only [E9,Prod.mk.injEq,true_and] at hm
        subst hm
        have hpos:∃ k,P.types.size+Made.depth=k+1:=by
          exact ⟨P.types.size+99,rfl⟩
        obtain ⟨k,hk⟩:=hpos
        simp only [callMethod,Sem.run_bind,run_program,Result.andThen_ok,hk,method,typeInfo,hi,hf,hp,follow,hfn,receiverAt,run_underlying hu,Place.get,Sem.run_pure]
        exact nK h _ w
      · cases hm

theorem Td {o : Oper} {X:AOp} {env:List AV} {a:Act} {c:Ctx} {f:FuncId} {as:List AV} {K:Act→World→Prop} {Q:Exit→Act→World→Prop} (hx:NH P o=some X) (ht:target env X=some (f,as)) (he:ER c env a.tmps) (hf:mM P f)
    (h : ∀ vs,ARel c as vs→Calls P f vs c.w fun
      | .returned v,w''=>K (a.put o.dst v) w''
      | .panicked chain,w''=>Q (.panic chain) a w''
      | .outgrown,_=>LetsOut Q):o.wp P a c.w K Q:=by
  -- the operation is a call
  have hcall:∃ cl,o.op=.call cl∧Kg P cl=some X:=by
    unfold NH at hx
    split at hx
    all_goals first
      | (rename_i cl hop; exact ⟨cl,hop,hx⟩)
      | (exfalso; (try simp only [HO] at hx); (repeat' split at hx) <;> (try simp only [E7,E9,reduceCtorEq] at hx) <;> first | exact hx | (subst hx; simp [target] at ht; done) | (obtain ⟨_,_,rfl⟩:=hx; simp [target] at ht; done))
  obtain ⟨⟨callee,args,tys⟩,hop,hx⟩:=hcall
  unfold Oper.wp
  unfold Kg at hx
  split at hx
  · rename_i g hcal
    simp only at hcal
    subst hcal
    rw [E7] at hx
    obtain ⟨ys,hy,rfl⟩:=hx
    simp only [target,E9,Prod.mk.injEq] at ht
    obtain ⟨rfl,rfl⟩:=ht
    have hrun:(execOp a.eval o).run P c.w=.ok (.enter g (args.toList.map a.eval).toArray) c.w:=by
      simp only [execOp,hop,resolve,Deferred.ofValue,Act.eval,Sem.run_bind,Sem.run_pure,Result.andThen_ok,invoke]
      have e:(#[] ++ j9 a.eval args ++ #[]:Array Value)=(args.toList.map a.eval).toArray:=by apply X7; simp
      rw [e]
      exact nK hf _ _
    rw [hrun,Oper.upon_enter]
    exact h _ (Aw hy he)
  · rename_i x hnf hcal
    simp only at hcal
    subst hcal
    split at hx
    · rename_i y ys h1 h2
      obtain rfl:=E5 hx
      have r1:=bX h1 he
      simp only [target] at ht
      split at ht
      · rename_i g first cap hv
        simp only [E9,Prod.mk.injEq] at ht
        obtain ⟨rfl,rfl⟩:=ht
        rw [hv] at r1
        generalize hq:a.eval x=q at r1
        cases r1 with
        | fn f fs cs vs us k1 k2 k3 k4 =>
          have hrun:(execOp a.eval o).run P c.w=.ok (.enter g (vs ++ (args.toList.map a.eval).toArray ++ us)) c.w:=by
            simp only [execOp,hop,resolve,hq,Deferred.ofValue,Sem.run_bind,Sem.run_pure,Result.andThen_ok,invoke]
            have e:(vs ++ j9 a.eval args ++ us:Array Value)=vs ++ (args.toList.map a.eval).toArray ++ us:=by congr 2; apply X7; simp
            rw [e]
            exact nK hf _ _
          rw [hrun,Oper.upon_enter]
          exact h _ (ARel.append (ARel.append ⟨k1,k3⟩ (Aw h2 he)) ⟨k2,k4⟩)
      · cases ht
    · cases hx
  · rename_i x name hcal
    simp only at hcal
    subst hcal
    split at hx
    · rename_i y ys h1 h2
      obtain rfl:=E5 hx
      have r1:=bX h1 he
      simp only [target] at ht
      split at ht
      · rename_i t v hv
        rw [hv] at r1
        generalize hq:a.eval x=q at r1
        cases r1 with
        | iface t v u k1 =>
          split at ht
          · rename_i g hg
            simp only [E9,Prod.mk.injEq] at ht
            obtain ⟨rfl,rfl⟩:=ht
            have hrun:(execOp a.eval o).run P c.w=.ok (.enter g (#[u] ++ (args.toList.map a.eval).toArray)) c.w:=by
              have e:j9 a.eval args=(args.toList.map a.eval).toArray:=by apply X7; simp
              have e2:∀ l:List Value,(#[Value.iface t u] ++ l.toArray).extract 1 (#[Value.iface t u] ++ l.toArray).size=l.toArray:=fun l=>by apply X7; simp
              have e3:∀ l:List Value,(#[Value.iface t u] ++ l.toArray)[0]?=some (Value.iface t u):=fun l=>by simp
              simp only [execOp,hop,resolve,hq,Deferred.ofValue,Sem.run_bind,Sem.run_pure,Result.andThen_ok,invoke,e,e2,e3]
              exact Cp hf (GA hg) u _ c.w
            rw [hrun,Oper.upon_enter]
            refine h _ (ARel.append (xs:=[v]) (vs:=#[u]) ⟨rfl,fun i z hi=>?_⟩ (Aw h2 he))
            cases i with
            | zero=>simp at hi; subst hi; exact k1
            | succ i=>simp at hi
          · cases ht
      · cases ht
    · cases hx
  all_goals (exfalso; revert ht; (repeat' split at hx) <;> simp only [E7,E9,reduceCtorEq] at hx <;> first | exact hx.elim | (subst hx; simp [target]) | (obtain ⟨_,_,rfl⟩:=hx; simp [target]))

theorem Ru {env:List AV} {m:Nat→Option Blk} {b:Nat} {x:AOp} {e:Ef} (h:ex O env m b x=some e):(∃ f as,target env x=some (f,as)∧O f as m b=some e)∨(target env x=none∧∃ r,aop m env b x=some r∧e=(r.v,r.ups,r.rd)):=by
  unfold ex at h
  split at h
  · exact .inl ⟨_,_,rfl,h⟩
  · split at h
    · rename_i g first cap hv
      exact .inl ⟨g,_,by simp [target,hv],h⟩
    · cases h
  · split at h
    · rename_i t v hv
      split at h
      · rename_i g hg
        exact .inl ⟨g,_,by simp [target,hv,hg],h⟩
      · cases h
    · cases h
  · rename_i h1 h2 h3
    rw [E7] at h
    obtain ⟨r,hr,rfl⟩:=h
    refine .inr ⟨?_,r,hr,rfl⟩
    cases x <;> first | rfl | exact absurd rfl (h1 _ _) | exact absurd rfl (h2 _ _) | exact absurd rfl (h3 _ _ _)

theorem Ot {ops:Array Oper} {o:Oper} {x:AO} {c:Ctx} {env:List AV} {a:Act} {m:Nat→Option Blk} {b:Nat} {e:Ef} {K:Act→World→Prop} {Q:Exit→Act→World→Prop} (hO:Ar P O) (hx:NG P ops o=some x)
    (hc:Gd c) (hm:c.m=m) (he:ER c env a.tmps) (hfr:∀ n,b≤n→n<b+16→¬ c.U n) (h:sC O env m b x=some e)
    (hK:∀ c' v,Gd c'→St c c'→c'.m=ups m e.2.1→(∀ n,c'.U n→(b≤n∧n<b+16)∨c.U n)→VR c' e.1 v→K (a.put x.dst v) c'.w) :
    if Region.wanted o (yielded ops a.tmps) then o.wp P a c.w K Q∨(o.asks P a c.w∧LetsOut Q) else K (a.put o.dst undef) c.w:=by
  obtain ⟨h1,h2,h3,h4⟩:=Mj hx
  unfold sC at h
  split at h
  · cases h
  · rename_i hg
    obtain rfl:=E5 h
    rw [if_neg (by rw [Fh h2 he hg]; simp),← h3]
    exact hK c undef hc (St.refl c) hm (fun n hn=>.inr hn) (.tup [] #[] rfl (by simp))
  · rename_i hg
    rw [if_pos (Fh h2 he hg)]
    left
    rcases Ru h with ⟨f,as,ht,hof⟩ | ⟨ht,r,hr,rfl⟩
    · obtain ⟨hcal,hcs⟩:=hO _ _ _ _ _ hof
      refine Td h1 ht he hcal fun vs hvs=>(hcs c hc hm hfr vs hvs).mono ?_
      rintro en w' ⟨c',z,rfl,rfl,k1,k2,k3,k4,k5⟩
      have:=hK c' z k1 k2 k3 k4 k5
      rwa [h3] at this
    · subst hm
      refine LO hc he (hfr b (G1 _) (by omega)) h1 hr fun c' v k1 k2 k3 k4 k5=>?_
      have:=hK c' v k1 k2 k3 (fun n hn=>by
        rcases k4 n hn with e | e
        · exact .inl (by omega)
        · exact .inr e) k5
      rwa [h3] at this
end


def Mk (P:Program) (ops:Array Oper):List Oper→Option (List AO)
  | []=>some []
  | o :: l=>match NG P ops o,Mk P ops l with
    | some x,some xs=>some (x :: xs)
    | _,_=>none

def zK (acc:List Nat) (o:AO):Nat:=o.after.foldl (fun s j=>s ||| (2 ^ j ||| acc.getD j 0)) 0
def mQ:List AO→List Nat→List Nat
  | [],acc=>acc
  | o :: l,acc=>mQ l (acc ++ [zK acc o])
def pD:AOp→Bool
  | .mv _ | .pick _ _ _ | .ext _ _ | .not _ | .bin _ _ _ | .eqb _ _ _ | .eqs _ _ _ _ | .conv _ _ | .fld _ _ _ _ | .build _ _ | .mkfn _ _ _ | .mkif _ _ | .tassert _ _ _ | .mn _ _ | .mx _ _=>true
  | _=>false
def xL (x y:AO):Bool :=
  (match x.dst with | some d=>!(y.tmps.contains d) && decide (y.dst≠some d) | none=>true) && (match y.dst with | some d=>!(x.tmps.contains d) | none=>true)
def nX (xs:List AO) (un:List (Nat×Nat)):Bool :=
  let ms:=mQ xs []
  (xs.zipIdx.all fun p=>p.1.after.all fun j=>decide (j<p.2)) &&
  (Q2 xs.length).all fun j=>(Q2 j).all fun i=>match xs[i]?,xs[j]? with
    | some x,some y=>(ms.getD j 0).testBit i || (xL x y && (pD x.op || pD y.op || un.contains (i,j)))
    | _,_=>false
def apartN (e f:Ef):Bool:=(e.2.1.all fun p=>!(f.2.2.contains p.1) && f.2.1.all fun q=>decide (q.1≠p.1)) && (f.2.1.all fun p=>!(e.2.2.contains p.1))
def dynOk (un:List (Nat×Nat)) (tr:List Ef):Bool:=un.all fun p=>match tr[p.1]?,tr[p.2]? with
  | some e,some f=>apartN e f
  | _,_=>false
def Nq (n:Nat) (xs:List AO):Bool:=xs.all fun o=>match o.dst with | some d=>decide (d<n) | none=>true

section
variable {P:Program} {O:Ty}

theorem He {ops:Array Oper}:∀ {l:List Oper} {xs:List AO},Mk P ops l=some xs→l.length=xs.length∧∀ (i:Nat) (o:Oper),l[i]?=some o→∃ x,xs[i]?=some x∧NG P ops o=some x
  | [],xs,h=>by simp only [Mk,E9] at h; subst h; simp
  | o :: l,xs,h=>by
    simp only [Mk] at h
    split at h
    · rename_i x xs' h1 h2
      obtain rfl:=E5 h
      obtain ⟨k1,k2⟩:=He h2
      refine ⟨by simp [k1],fun i o' hi=>?_⟩
      cases i with
      | zero=>simp at hi; subst hi; exact ⟨x,rfl,h1⟩
      | succ i=>simpa using k2 i o' (by simpa using hi)
    · cases h

theorem Ew {env:List AV} {m:Nat→Option Blk} {b:Nat} {o:AO} {e:Ef} (hp:pD o.op=true) (h:sC O env m b o=some e):e.2.1=[]∧e.2.2=[]:=by
  unfold sC at h
  split at h
  · cases h
  · obtain rfl:=E5 h; exact ⟨rfl,rfl⟩
  · revert hp h
    generalize o.op=x
    intro hp h
    cases x <;> simp only [pD,G0] at hp <;> simp only [ex,aop,Option.map_map,E7,L9,E9] at h
    case pick c a d =>
      obtain ⟨r,h1,rfl⟩:=h
      split at h1
      · obtain rfl:=E5 h1; exact ⟨rfl,rfl⟩
      · cases h1
    all_goals first
      | (subst h; exact ⟨rfl,rfl⟩)
      | (obtain ⟨v,_,rfl⟩:=h; exact ⟨rfl,rfl⟩)

def Qr (p:List AV×AM) (q:AO×Ef):List AV×AM:=(qX p.1 q.1.dst q.2.1,p.2.upd q.2.2.1)
def Js (env:List AV) (m:AM) (xs:List AO) (tr:List Ef) (k:Nat):List AV×AM:=((xs.zip tr).take k).foldl Qr (env,m)

theorem tA (env:List AV) (d:Option Nat) (v:AV):(qX env d v).length=env.length:=by cases d <;> simp [qX]

theorem Co : ∀ {xs:List AO} {b:Nat} {env env':List AV} {m m':AM} {tr:List Ef},runD O xs b env m=some (env',m',tr) →
    tr.length=xs.length∧(env',m')=Js env m xs tr xs.length∧∀ (k:Nat) (x:AO),xs[k]?=some x→∃ e,tr[k]?=some e∧sC O (Js env m xs tr k).1 (Js env m xs tr k).2.get (b+16 * k) x=some e
  | [],b,env,env',m,m',tr,h=>by
    simp only [runD,E9,Prod.mk.injEq] at h
    obtain ⟨rfl,rfl,rfl⟩:=h
    exact ⟨rfl,rfl,by simp⟩
  | o :: xs,b,env,env',m,m',tr,h=>by
    simp only [runD] at h
    split at h
    · cases h
    · rename_i e he
      split at h
      · cases h
      · rename_i env1 m1 tr1 hr
        simp only [E9,Prod.mk.injEq] at h
        obtain ⟨rfl,rfl,rfl⟩:=h
        obtain ⟨k1,k2,k3⟩:=Co hr
        have hst:∀ k,Js env m (o :: xs) (e :: tr1) (k+1)=Js (qX env o.dst e.1) (m.upd e.2.1) xs tr1 k:=fun k=>by simp [Js,Qr]
        refine ⟨by simp [k1],by rw [I5,hst]; exact k2,fun k x hk=>?_⟩
        cases k with
        | zero =>
          simp at hk; subst hk
          exact ⟨e,rfl,by simpa [Js] using he⟩
        | succ k =>
          obtain ⟨f,f1,f2⟩:=k3 k x (by simpa using hk)
          refine ⟨f,by simpa using f1,?_⟩
          rw [hst,show b+16 * (k+1)=b+16+16 * k from by omega]
          exact f2

theorem pT : ∀ (u : List (Nat×Option Blk)) (m:Nat→Option Blk) (g:Nat),ups m u g=(lB u g).getD (m g):=by
  intro u
  -- from the front
  have gen : ∀ (u : List (Nat×Option Blk)) (m:Nat→Option Blk) (g:Nat) (acc:Option (Option Blk)),acc.getD (m g)=m g∨True→ups m u g=(u.foldl (fun acc p=>if p.1=g then some p.2 else acc) none).getD (m g):=by
    intro u
    induction u with
    | nil=>intro m g acc _; rfl
    | cons p u ih =>
      intro m g acc _
      obtain ⟨k,b⟩:=p
      simp only [ups,N7]
      rw [ih (put m k b) g none (.inr trivial)]
      by_cases hk:k=g
      · subst hk
        simp only [if_pos,Yw]
        -- what stands behind an update of the same place
        have : ∀ (l:List (Nat×Option Blk)) (a:Option Blk),(l.foldl (fun acc p=>if p.1=k then some p.2 else acc) none).getD a=(l.foldl (fun acc p=>if p.1=k then some p.2 else acc) (some a)).getD (m k):=by
          intro l
          induction l with
          | nil=>intro a; rfl
          | cons q l ihl =>
            intro a
            simp only [N7]
            by_cases hq:q.1=k
            · simp only [if_pos hq]
              have gen2:∀ (l:List (Nat×Option Blk)) (x y z:Option Blk),(l.foldl (fun acc p=>if p.1=k then some p.2 else acc) (some x)).getD y=(l.foldl (fun acc p=>if p.1=k then some p.2 else acc) (some x)).getD z:=by
                intro l
                induction l with
                | nil=>intro x y z; rfl
                | cons r l ihr =>
                  intro x y z
                  simp only [N7]
                  split
                  · exact ihr _ y z
                  · exact ihr _ y z
              exact gen2 l q.2 a (m k)
            · simp only [if_neg hq]; exact ihl a
        exact this u b
      · simp only [if_neg hk,Sv _ _ (Ne.symm hk)]
  intro m g
  exact gen u m g none (.inr trivial)

def dS (xs:List AO) (tr:List Ef) (k:Nat):List (Nat×AV):=match xs[k]?,tr[k]? with
  | some x,some e=>match x.dst with
    | some d=>[(d,e.1)]
    | none=>[]
  | _,_=>[]
def dN (tr:List Ef) (k:Nat):List (Nat×Option Blk):=match tr[k]? with
  | some e=>e.2.1
  | none=>[]

theorem Dq {xs:List AO} {tr:List Ef} {k:Nat} {x:AO} {e:Ef} (hx:xs[k]?=some x) (he:tr[k]?=some e):(xs.zip tr).take (k+1)=(xs.zip tr).take k ++ [(x,e)]:=by
  have:(xs.zip tr)[k]?=some (x,e):=by rw [List.getElem?_zip_eq_some]; exact ⟨hx,he⟩
  have hl:k<(xs.zip tr).length:=(F6.1 this).1
  rw [List.take_succ_eq_append_getElem hl]
  congr 2
  exact (F6.1 this).2

theorem Bp {α β:Type}:∀ (l:List α) (v:β),l.foldl (fun acc _=>acc) v=v
  | [],_=>rfl
  | _ :: l,v=>Bp l v

theorem Oq {env:List AV} {m:AM} {xs:List AO} {tr:List Ef} (hl:tr.length=xs.length) (hd:Nq env.length xs=true):∀ k,k≤xs.length →
    (Js env m xs tr k).1.length=env.length∧(∀ t,(Js env m xs tr k).1.getD t .und=val (fun t=>env.getD t .und) (dS xs tr) xs.length (fun j=>decide (j<k)) t) ∧
    ∀ g,(Js env m xs tr k).2.get g=val m.get (dN tr) xs.length (fun j=>decide (j<k)) g
  | 0, _ => by
    refine ⟨rfl,fun t=>?_,fun g=>?_⟩
    · have:val (fun t=>env.getD t .und) (dS xs tr) xs.length (fun j=>decide (j<0)) t=env.getD t .und:=by
        unfold val
        rw [kL _ (fun acc _=>acc) _ _ (fun a _ y=>by simp)]
        exact Bp _ _
      rw [this]; rfl
    · have:val m.get (dN tr) xs.length (fun j=>decide (j<0)) g=m.get g:=by
        unfold val
        rw [kL _ (fun acc _=>acc) _ _ (fun a _ y=>by simp)]
        exact Bp _ _
      rw [this]; rfl
  | k + 1, hk=>by
    obtain ⟨h1,h2,h3⟩:=Oq (m:=m) hl hd k (by omega)
    have hkl:k<xs.length:=by omega
    have hx:xs[k]?=some xs[k]:=F9 hkl
    have he:tr[k]?=some tr[k]:=F9 (by omega)
    generalize xs[k]=x at hx
    generalize tr[k]'(by omega)=e at he
    have hst:Js env m xs tr (k+1)=Qr (Js env m xs tr k) (x,e):=by
      unfold Js
      rw [Dq hx he,S8]
      rfl
    have hS:∀ {V:Type} (σ:Nat→V) (δ:Nat→List (Nat×V)) (ℓ:Nat),val σ δ xs.length (fun j=>decide (j<k+1)) ℓ=(lB (δ k) ℓ).getD (val σ δ xs.length (fun j=>decide (j<k)) ℓ):=by
      intro V σ δ ℓ
      rw [← rH (S:=fun j=>decide (j<k)) hkl (by simp) (fun j h1 h2 h3=>by simp at h3; omega)]
      refine kX fun j _ _=>?_
      by_cases h1:j<k <;> by_cases h2:j=k <;> simp [h1,h2] <;> omega
    rw [hst]
    refine ⟨by simp only [Qr,tA,h1],fun t=>?_,fun g=>?_⟩
    · rw [hS,← h2 t]
      have hdS:dS xs tr k=match x.dst with | some d=>[(d,e.1)] | none=>[]:=by simp only [dS,hx,he]
      rw [hdS]
      simp only [Qr]
      cases hxd:x.dst with
      | none=>simp [qX,lB]
      | some d =>
        have hdl:d<env.length:=by
          have:=G4.1 hd x (I7 hx)
          rw [hxd] at this
          simpa using this
        simp only [qX,lB,N7,Z2]
        rw [E6,O2]
        by_cases hdt:d=t
        · subst hdt; simp [h1,hdl]
        · simp [hdt]
    · rw [hS,← h3 g]
      have hdN:dN tr k=e.2.1:=by simp only [dN,he]
      rw [hdN]
      simp only [Qr,AM.get_upd,pT]

theorem Sf (acc:List Nat) (o:AO) (i:Nat):(zK acc o).testBit i=true↔∃ j,j∈o.after∧(i=j∨(acc.getD j 0).testBit i=true):=by
  unfold zK
  have gen : ∀ (l:List Nat) (s:Nat),(l.foldl (fun s j=>s ||| (2 ^ j ||| acc.getD j 0)) s).testBit i=true↔s.testBit i=true∨∃ j,j∈l∧(i=j∨(acc.getD j 0).testBit i=true):=by
    intro l
    induction l with
    | nil=>intro s; simp
    | cons j l ih =>
      intro s
      simp only [N7]
      rw [ih]
      simp only [Nat.testBit_or,H9,Nat.testBit_two_pow,decide_eq_true_eq,List.mem_cons]
      constructor
      · rintro ((h | h | h) | ⟨q,h1,h2⟩)
        · exact .inl h
        · exact .inr ⟨j,.inl rfl,.inl h.symm⟩
        · exact .inr ⟨j,.inl rfl,.inr h⟩
        · exact .inr ⟨q,.inr h1,h2⟩
      · rintro (h | ⟨q,rfl | h1,h2⟩)
        · exact .inl (.inl h)
        · rcases h2 with h2 | h2
          · exact .inl (.inr (.inl h2.symm))
          · exact .inl (.inr (.inr h2))
        · exact .inr ⟨q,h1,h2⟩
  rw [gen]
  simp

theorem Je : ∀ (xs:List AO) (acc:List Nat),(mQ xs acc).length=acc.length+xs.length∧(∀ i,i<acc.length→(mQ xs acc)[i]?=acc[i]?) ∧
    ∀ (k:Nat) (x:AO),xs[k]?=some x→(mQ xs acc).getD (acc.length+k) 0=zK ((mQ xs acc).take (acc.length+k)) x
  | [],acc=>by simp [mQ]
  | o :: l,acc=>by
    obtain ⟨h1,h2,h3⟩:=Je l (acc ++ [zK acc o])
    simp only [mQ]
    refine ⟨by rw [h1]; simp; omega,fun i hi=>?_,fun k x hk=>?_⟩
    · rw [h2 i (by simp; omega),H4 hi]
    · cases k with
      | zero =>
        simp at hk; subst hk
        have e:(mQ l (acc ++ [zK acc o]))[acc.length]?=some (zK acc o):=by rw [h2 _ (by simp)]; simp
        have e2:(mQ l (acc ++ [zK acc o])).take acc.length=acc:=by
          apply U1
          intro i
          rw [J6]
          split
          · rename_i hi; rw [h2 i (by simp; omega),H4 hi]
          · rename_i hi; rw [N8 (by omega)]
        rw [P7,E6,e,e2]
        rfl
      | succ k =>
        have:=h3 k x (by simpa using hk)
        simp only [List.length_append,I5,L7] at this
        rw [show acc.length+(k+1)=acc.length+(0+1)+k from by omega]
        exact this

theorem Fd {l:List Nat} {k j:Nat} (h:j<k):(l.take k).getD j 0=l.getD j 0:=by
  rw [E6,J6,if_pos h,← E6]

theorem Sg {xs:List AO} {k i:Nat} {x:AO} (hx:xs[k]?=some x) (hb:∀ j,j∈x.after→j<k):((mQ xs []).getD k 0).testBit i=true↔∃ j,j∈x.after∧(i=j∨((mQ xs []).getD j 0).testBit i=true):=by
  have:=(Je xs []).2.2 k x hx
  simp only [L7,L8] at this
  rw [this,Sf]
  constructor
  · rintro ⟨j,h1,h2⟩
    refine ⟨j,h1,?_⟩
    rwa [Fd (hb j h1)] at h2
  · rintro ⟨j,h1,h2⟩
    refine ⟨j,h1,?_⟩
    rwa [Fd (hb j h1)]

theorem Fa:∀ {l:List Bool} {i:Nat},l[i]?=some false→(l.set i true).count false+1=l.count false
  | [],i,h=>by simp at h
  | b :: l,0,h=>by simp at h; subst h; simp
  | b :: l,i+1,h=>by
    simp only [List.set_cons_succ,List.count_cons]
    have:=Fa (l:=l) (i:=i) (by simpa using h)
    omega

end

theorem tX {L V:Type} [DecidableEq L] {ℓ:L}:∀ {l:List (L×V)},(lB l ℓ).isSome=true→∃ p,p∈l∧p.1=ℓ:=by
  intro l
  unfold lB
  have gen:∀ (l:List (L×V)) (acc:Option V),(l.foldl (fun acc p=>if p.1=ℓ then some p.2 else acc) acc).isSome=true→acc.isSome=true∨∃ p,p∈l∧p.1=ℓ:=by
    intro l
    induction l with
    | nil=>intro acc h; exact .inl h
    | cons q l ih =>
      intro acc h
      simp only [N7] at h
      rcases ih _ h with h1 | ⟨p,h1,h2⟩
      · split at h1
        · rename_i hq; exact .inr ⟨q,by simp,hq⟩
        · exact .inl h1
      · exact .inr ⟨p,by simp [h1],h2⟩
  intro h
  rcases gen l none h with h | h
  · cases h
  · exact h
theorem tW {L V:Type} [DecidableEq L] {ℓ:L} {l:List (L×V)} (h:∀ p,p∈l→p.1≠ℓ):lB l ℓ=none:=by
  cases hl:lB l ℓ with
  | none=>rfl
  | some v =>
    obtain ⟨p,h1,h2⟩:=tX (l:=l) (ℓ:=ℓ) (by rw [hl]; rfl)
    exact absurd h2 (h p h1)

section
variable {P:Program} {O:Ty}

theorem Gh {xs:List AO} {tr:List Ef} {k t:Nat} {x:AO} (hx:xs[k]?=some x) (h:(lB (dS xs tr k) t).isSome=true):x.dst=some t:=by
  obtain ⟨p,h1,h2⟩:=tX h
  unfold dS at h1
  rw [hx] at h1
  split at h1
  · rename_i x' e h3 h4
    obtain rfl:=E5 h3
    split at h1
    · rename_i d hd
      simp at h1
      subst h1
      have h3:d=t:=h2
      rw [hd,h3]
    · simp at h1
  · simp at h1

theorem kW {xs:List AO} {un:List (Nat×Nat)} (h:nX xs un=true) {i j:Nat} {x y:AO} (hij:i<j) (hx:xs[i]?=some x) (hy:xs[j]?=some y) :
    ((mQ xs []).getD j 0).testBit i=true∨(xL x y=true∧(pD x.op=true∨pD y.op=true∨(i,j)∈un)):=by
  unfold nX at h
  simp only [D9] at h
  have hj:j<xs.length:=(F6.1 hy).1
  have:=G4.1 (G4.1 h.2 j (R2.2 hj)) i (R2.2 hij)
  rw [hx,hy] at this
  simp only [H9,D9,List.contains_iff_mem] at this
  rcases this with h1 | ⟨h1,(h2 | h2) | h2⟩
  · exact .inl h1
  · exact .inr ⟨h1,.inl h2⟩
  · exact .inr ⟨h1,.inr (.inl h2)⟩
  · exact .inr ⟨h1,.inr (.inr h2)⟩

theorem zM {xs:List AO} {un:List (Nat×Nat)} (h:nX xs un=true) {k:Nat} {x:AO} (hx:xs[k]?=some x):∀ j,j∈x.after→j<k:=by
  unfold nX at h
  simp only [D9] at h
  have hm:(x,k)∈xs.zipIdx:=by rw [List.mem_zipIdx_iff_getElem?]; exact hx
  have:=G4.1 h.1 (x,k) hm
  intro j hj
  simpa using G4.1 this j hj

theorem Hm {x y:AO} (h:xL x y=true) {d:Nat} (hd:x.dst=some d):d∉y.tmps∧y.dst≠some d:=by
  unfold xL at h
  rw [hd] at h
  simp only [D9,M8,decide_eq_true_eq] at h
  obtain ⟨⟨h1,h2⟩,_⟩:=h
  exact ⟨by simpa using h1,h2⟩
theorem Ub {x y:AO} (h:xL x y=true) {d:Nat} (hd:y.dst=some d):d∉x.tmps:=by
  unfold xL at h
  rw [hd] at h
  simp only [D9,M8] at h
  simpa using h.2

theorem Hl {e f:Ef} (h:apartN e f=true) {p:Nat×Option Blk} (hp:p∈e.2.1):p.1∉f.2.2∧∀ q,q∈f.2.1→q.1≠p.1:=by
  unfold apartN at h
  simp only [D9] at h
  have:=G4.1 h.1 p hp
  simp only [D9,M8] at this
  exact ⟨by simpa using this.1,fun q hq=>by simpa using G4.1 this.2 q hq⟩
theorem Ua {e f:Ef} (h:apartN e f=true) {p:Nat×Option Blk} (hp:p∈f.2.1):p.1∉e.2.2:=by
  unfold apartN at h
  simp only [D9] at h
  have:=G4.1 h.2 p hp
  simp only [M8] at this
  simpa using this
theorem Lj {un:List (Nat×Nat)} {tr:List Ef} (h:dynOk un tr=true) {i j:Nat} (hm:(i,j)∈un) {e f:Ef} (he:tr[i]?=some e) (hf:tr[j]?=some f):apartN e f=true:=by
  have:=G4.1 h (i,j) hm
  simp only [he,hf] at this
  exact this

theorem Wn {id : Nat} {ops:Array Oper} {un:List (Nat×Nat)} {xs:List AO} {b:Nat} {env env':List AV} {m m':AM} {tr:List Ef} {a:Act} {c:Ctx} {Q:Exit→Act→World→Prop} (hmix:P.follows .mixedOrders=true) (hO:Ar P O) (hL:Fo O)
    (hx:Mk P ops ops.toList=some xs) (hst:nX xs un=true) (hrun:runD O xs b env m=some (env',m',tr)) (hdyn:dynOk un tr=true) (hdst:Nq env.length xs=true) (hc:Gd c) (hm:c.m=m.get) (hU:∀ n,c.U n→n<b) (he:ER c env a.tmps)
    (hK:∀ c' a',Gd c'→St c c'→c'.m=m'.get→(∀ n,c'.U n→c.U n∨b≤n∧n<b+16 * xs.length)→ER c' env' a'.tmps→a'.defers=a.defers→Q .normal a' c'.w):(Code.region id ops true).wp P Q a c.w:=by
  obtain ⟨hlen,hat⟩:=He hx
  obtain ⟨htl,hfin,hsteps⟩:=Co hrun
  have hsz:ops.size=xs.length:=by rw [← hlen]; simp
  let n:=xs.length
  let σS:=fun t=>env.getD t AV.und
  have hval:=Oq (m:=m) htl hdst
  -- the invariant
  have main : ∀ (fuel:Nat) (listed:Array Bool) (a':Act) (c':Ctx),listed.size=n→listed.toList.count false≤fuel→Gd c'→St c c' →
      (∃ envS,ER c' envS a'.tmps∧envS.length=env.length∧∀ t,envS.getD t .und=val σS (dS xs tr) n (fun k=>listed.getD k false) t) →
      (∀ g,c'.m g=val m.get (dN tr) n (fun k=>listed.getD k false) g)→(∀ g,c'.U g→c.U g∨∃ k,k<n∧listed.getD k false=true∧b+16 * k≤g∧g<b+16 * k+16) →
      (∀ k,listed.getD k false=true→∀ j,((mQ xs []).getD k 0).testBit j=true→listed.getD j false=true)→a'.defers=a.defers→wpAny P .any ops Q fuel listed a' c'.w:=by
    intro fuel
    induction fuel with
    | zero =>
      intro listed a' c' hls hcnt h1 h2 h3 h4 h5 h6 h7
      have hall:∀ k,k<n→listed.getD k false=true:=by
        intro k hk
        have hkl:k<listed.size:=by omega
        have hno:false∉listed.toList:=List.count_eq_zero.1 (by omega)
        have hb:listed[k]≠false:=fun e=>hno (by rw [← e]; simp)
        have:listed[k]=true:=by cases h:listed[k] with
          | true=>rfl
          | false=>exact absurd h hb
        simpa [F0,hkl] using this
      refine ⟨?_,?_⟩
      · cases hr:Region.ready .any ops listed with
        | nil=>rfl
        | cons i l =>
          obtain ⟨q1,o,q2,_⟩:=(mem_ready (md:=.any) (ops:=ops) (listed:=listed) (j:=i)).1 (by rw [hr]; simp)
          have hi:i<n:=by show i<xs.length; rw [← hsz]; exact (H0.1 q2).1
          have:=hall i hi
          have hil:i<listed.size:=by omega
          simp [F0,hil] at q1 this
          rw [q1] at this; cases this
      · obtain ⟨envS,e1,e2,e3⟩:=h3
        have he':envS=env':=by
          have hv:=hval n (G1 _)
          have hf1:env'=(Js env m xs tr xs.length).1:=congrArg Prod.fst hfin
          apply U1
          intro i
          have hg:envS.getD i .und=env'.getD i .und:=by
            rw [e3,hf1,hv.2.1 i]
            exact kX fun k hk _=>by rw [hall k hk]; exact (decide_eq_true (show k<xs.length from hk)).symm
          have hl':env'.length=env.length:=by rw [hf1]; exact hv.1
          by_cases hi:i<env.length
          · rw [F9 (by omega),F9 (by omega)]
            rw [E6,E6,F9 (by omega),F9 (by omega)] at hg
            simpa using hg
          · rw [N8 (by omega),N8 (by omega)]
        subst he'
        refine hK c' a' h1 h2 ?_ (fun g hg=>?_) e1 h7
        · funext g
          have hf2:m'=(Js env m xs tr xs.length).2:=congrArg Prod.snd hfin
          rw [h4 g,hf2,(hval n (G1 _)).2.2 g]
          exact kX fun k hk _=>by rw [hall k hk]; exact (decide_eq_true (show k<xs.length from hk)).symm
        · rcases h5 g hg with q | ⟨k,q1,_,q3,q4⟩
          · exact .inl q
          · have:k+1≤xs.length:=q1
            exact .inr ⟨by omega,by omega⟩
    | succ fuel ih =>
      intro listed a' c' hls hcnt h1 h2 h3 h4 h5 h6 h7
      -- who is least of those that are left is ready
      have least : Region.ready .any ops listed=[]→∀ k,k<n→listed.getD k false=true:=by
        intro hr k
        induction k using Nat.strongRecOn with
        | _ k ihk =>
          intro hk
          cases hlk:listed.getD k false with
          | true=>rfl
          | false =>
            exfalso
            have hko:k<ops.size:=by rw [hsz]; exact hk
            obtain ⟨x,hxk,hxo⟩:=hat k ops[k] (by simp [hko])
            have hback:=zM hst hxk
            have hmem:k∈Region.ready .any ops listed:=by
              rw [mem_ready]
              have hkl:k<listed.size:=by omega
              refine ⟨by simpa [F0,hkl] using hlk,ops[k],by simp [hko],fun e he hb=>?_⟩
              have haft:e.on∈x.after:=by
                rw [(Mj hxo).2.2.2]
                unfold Fq
                rw [G5]
                exact ⟨e,by rw [P1]; exact ⟨by simpa using he,hb⟩,rfl⟩
              exact ihk _ (hback _ haft) (by have:=hback _ haft; omega)
            rw [hr] at hmem
            cases hmem
      refine ⟨fun hr=>?_,fun i hi=>?_⟩
      · have hall:=least hr
        obtain ⟨envS,e1,e2,e3⟩:=h3
        have he':envS=env':=by
          have hv:=hval n (G1 _)
          have hf1:env'=(Js env m xs tr xs.length).1:=congrArg Prod.fst hfin
          apply U1
          intro i
          have hg:envS.getD i .und=env'.getD i .und:=by
            rw [e3,hf1,hv.2.1 i]
            exact kX fun k hk _=>by rw [hall k hk]; exact (decide_eq_true (show k<xs.length from hk)).symm
          have hl':env'.length=env.length:=by rw [hf1]; exact hv.1
          by_cases hi:i<env.length
          · rw [F9 (by omega),F9 (by omega)]
            rw [E6,E6,F9 (by omega),F9 (by omega)] at hg
            simpa using hg
          · rw [N8 (by omega),N8 (by omega)]
        subst he'
        refine hK c' a' h1 h2 ?_ (fun g hg=>?_) e1 h7
        · funext g
          have hf2:m'=(Js env m xs tr xs.length).2:=congrArg Prod.snd hfin
          rw [h4 g,hf2,(hval n (G1 _)).2.2 g]
          exact kX fun k hk _=>by rw [hall k hk]; exact (decide_eq_true (show k<xs.length from hk)).symm
        · rcases h5 g hg with q | ⟨k,q1,_,q3,q4⟩
          · exact .inl q
          · have:k+1≤xs.length:=q1
            exact .inr ⟨by omega,by omega⟩
      · obtain ⟨q1,o,q2,q3⟩:=mem_ready.1 hi
        have hio:i<ops.size:=(H0.1 q2).1
        have hin:i<n:=by show i<xs.length; omega
        have hil:i<listed.size:=by omega
        have hSi:listed.getD i false=false:=by simp [F0,hil] at q1 ⊢; exact q1
        obtain ⟨x,hxi,hxo⟩:=hat i o (by rw [U0]; exact q2)
        obtain ⟨e,he1,he2⟩:=hsteps i x hxi
        have hpred:∀ j,j∈x.after→listed.getD j false=true:=by
          intro j hj
          rw [(Mj hxo).2.2.2] at hj
          unfold Fq at hj
          rw [G5] at hj
          obtain ⟨ed,hed,rfl⟩:=hj
          rw [P1] at hed
          exact q3 ed (by simpa using hed.1) hed.2
        -- whoever is ahead of it is there; whoever it is ahead of is not
        have ahead:∀ j,((mQ xs []).getD i 0).testBit j=true→listed.getD j false=true:=by
          intro j hj
          rw [Sg hxi (zM hst hxi)] at hj
          obtain ⟨q,hq1,rfl | hq2⟩:=hj
          · exact hpred _ hq1
          · exact h6 q (hpred q hq1) j hq2
        have behind:∀ j,((mQ xs []).getD j 0).testBit i=true→listed.getD j false=false:=by
          intro j hj
          cases hlj:listed.getD j false with
          | false=>rfl
          | true=>have:=h6 j hlj i hj; rw [hSi] at this; cases this
        have xat:∀ j,j<n→∃ y f,xs[j]?=some y∧tr[j]?=some f∧(pD y.op=true→f.2.1=[]∧f.2.2=[]):=by
          intro j hj
          have hy:xs[j]?=some xs[j]:=F9 hj
          obtain ⟨f,f1,f2⟩:=hsteps j _ hy
          exact ⟨_,f,hy,f1,fun hp=>Ew hp f2⟩
        have hpe:pD x.op=true→e.2.1=[]∧e.2.2=[]:=fun hp=>Ew hp he2
        obtain ⟨envS,s1,s2,s3⟩:=h3
        have hstep:sC O envS c'.m (b+16 * i) x=some e:=by
          refine Jt hL he2 (fun t ht=>?_) (fun g hg=>?_)
          · rw [s3,(hval i (Nat.le_of_lt hin)).2.1 t]
            refine kX fun j hj hl=>?_
            obtain ⟨y,f,y1,y2,_⟩:=xat j hj
            have hdst:=Gh y1 hl
            rcases X0 j i with hji | hji | hji
            · rcases kW hst hji y1 hxi with hb | ⟨hb,_⟩
              · rw [ahead j hb]; simp [hji]
              · exact absurd ht (Hm hb hdst).1
            · subst hji; rw [hSi]; simp
            · rcases kW hst hji hxi y1 with hb | ⟨hb,_⟩
              · rw [behind j hb]; simp; omega
              · exact absurd ht (Ub hb hdst)
          · rw [h4,(hval i (Nat.le_of_lt hin)).2.2 g]
            refine kX fun j hj hl=>?_
            obtain ⟨y,f,y1,y2,yp⟩:=xat j hj
            obtain ⟨p,p1,p2⟩:=tX hl
            simp only [dN,y2] at p1
            rcases X0 j i with hji | hji | hji
            · rcases kW hst hji y1 hxi with hb | ⟨_,hb | hb | hb⟩
              · rw [ahead j hb]; simp [hji]
              · rw [(yp hb).1] at p1; cases p1
              · rw [(hpe hb).2] at hg; cases hg
              · have:=(Hl (Lj hdyn hb y2 he1) p1).1
                rw [p2] at this; exact absurd hg this
            · subst hji; rw [hSi]; simp
            · rcases kW hst hji hxi y1 with hb | ⟨_,hb | hb | hb⟩
              · rw [behind j hb]; simp; omega
              · rw [(hpe hb).2] at hg; cases hg
              · rw [(yp hb).1] at p1; cases p1
              · have:=Ua (Lj hdyn hb he1 y2) p1
                rw [p2] at this; exact absurd hg this
        have hfresh:∀ g,b+16 * i≤g→g<b+16 * i+16→¬ c'.U g:=by
          intro g g1 g2 hUg
          rcases h5 g hUg with q | ⟨k,_,k2,k3,k4⟩
          · have:=hU g q; omega
          · have:k=i:=by omega
            subst this; rw [hSi] at k2; cases k2
        unfold wpOp
        rw [q2]
        refine Ot (K:=wpAny P .any ops Q fuel (listed.setIfInBounds i true)) hO hxo h1 rfl s1 hfresh hstep ?_
        intro c2 v k1 k2 k3 k4 k5
        have hgd:∀ k,(listed.setIfInBounds i true).getD k false=(listed.getD k false || decide (k=i)):=by
          intro k
          by_cases hki:k=i
          · subst hki; simp [F0,hil]
          · simp only [F0,Array.getElem?_setIfInBounds_ne (Ne.symm hki),hki,decide_false,Bool.or_false]
        have hset:(fun k=>(listed.setIfInBounds i true).getD k false)=fun k=>listed.getD k false || decide (k=i):=funext hgd
        refine ih (listed.setIfInBounds i true) (a'.put x.dst v) c2 (by simp [hls]) ?_ k1 (h2.trans k2) ?_ ?_ ?_ ?_ ?_
        · have hlf:listed.toList[i]?=some false:=by
            rw [U0,M3 hil]
            simpa [F0,hil] using hSi
          have:=Fa hlf
          rw [Array.toList_setIfInBounds]
          omega
        · refine ⟨qX envS x.dst e.1,Jm (s1.mono k2) k5,by rw [tA,s2],fun t=>?_⟩
          rw [hset,rH hin hSi (fun j j1 j2 j3 hl=>?_)]
          · rw [← s3 t]
            have hdS:dS xs tr i=match x.dst with | some d=>[(d,e.1)] | none=>[]:=by
              simp only [dS,hxi,he1]
              first | done | (cases x.dst <;> rfl)
            rw [hdS]
            cases hxd:x.dst with
            | none=>simp [qX,lB]
            | some d =>
              have hdl:d<env.length:=by
                have:=G4.1 hdst x (I7 hxi)
                rw [hxd] at this
                simpa using this
              simp only [qX,lB,N7,Z2]
              rw [E6,O2]
              by_cases hdt:d=t
              · subst hdt; simp [s2,hdl]
              · simp [hdt]
          · obtain ⟨y,f,y1,y2,_⟩:=xat j j2
            rcases kW hst j1 hxi y1 with hb | ⟨hb,_⟩
            · rw [behind j hb] at j3; cases j3
            · have hdst:=Gh hxi hl
              cases hlj:lB (dS xs tr j) t with
              | none=>rfl
              | some z =>
                have:=Gh (tr:=tr) (t:=t) y1 (by rw [hlj]; rfl)
                exact absurd this (Hm hb hdst).2
        · intro g
          rw [k3,hset,rH hin hSi (fun j j1 j2 j3 hl=>?_)]
          · rw [pT,h4 g]
            have:dN tr i=e.2.1:=by simp only [dN,he1]
            rw [this]
          · obtain ⟨y,f,y1,y2,yp⟩:=xat j j2
            obtain ⟨p,p1,p2⟩:=tX hl
            simp only [dN,he1] at p1
            rcases kW hst j1 hxi y1 with hb | ⟨_,hb | hb | hb⟩
            · rw [behind j hb] at j3; cases j3
            · rw [(hpe hb).1] at p1; cases p1
            · refine tW fun q hq=>?_
              simp only [dN,y2,(yp hb).1] at hq; cases hq
            · refine tW fun q hq=>?_
              simp only [dN,y2] at hq
              rw [← p2]
              exact (Hl (Lj hdyn hb he1 y2) p1).2 q hq
        · intro g hg
          rcases k4 g hg with q | q
          · exact .inr ⟨i,hin,by rw [hgd]; simp,q.1,q.2⟩
          · rcases h5 g q with q | ⟨k,r1,r2,r3,r4⟩
            · exact .inl q
            · exact .inr ⟨k,r1,by rw [hgd,r2]; rfl,r3,r4⟩
        · intro k hk j hj
          rw [hgd] at hk ⊢
          rw [H9] at hk ⊢
          left
          rcases hk with hk | hk
          · exact h6 k hk j hj
          · have:k=i:=by simpa using hk
            subst this
            exact ahead j hj
        · cases x.dst <;> exact h7
  obtain ⟨hd1,hd2⟩:=hc.draw
  refine wp_region_any hmix ?_
  have h0:∀ k,(T7 ops.size false).getD k false=false:=by
    intro k
    by_cases hk:k<ops.size
    · simp [F0,hk]
    · simp [F0,hk]
  have hz:(fun k=>(T7 ops.size false).getD k false)=fun j=>decide (j<0):=by funext k; rw [h0]; simp
  refine main ops.size (T7 ops.size false) a { c with w:=c.w.drew } (by simp [hsz]; rfl) (by simp) hd1 hd2 ⟨env,he.mono hd2,rfl,fun t=>?_⟩ (fun g=>?_) (fun g hg=>.inl hg) (fun k hk=>by rw [h0] at hk; cases hk) rfl
  · rw [hz,← (hval 0 (M6 _)).2.1 t]; rfl
  · rw [hz,← (hval 0 (M6 _)).2.2 g]; show c.m g=_; rw [hm]; rfl
end
end Go.Sak
