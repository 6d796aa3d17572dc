/- Part U02 of the proofs about the program: K, L, M, N, O, Q. Conditions: none. -/
import Derived.Test.YtahdilehajdhgaaGreatU01
import Derived.Laws.StructEq
open Array renaming ext'→DN,getD_eq_getD_getElem?→Zp,getElem?_append→DI,getElem?_eq_getElem→CM,getElem?_eq_some_iff→AT,getElem?_toList→CV,map→GM,replicate→DV
open Bool renaming and_eq_true→Zq,false_eq_true→AK,not_eq_true'→CD,or_eq_true→AZ
open List renaming all_eq_true→AA,ext_getElem?→DF,foldl_append→FM,foldl_cons→BM,foldl_nil→GI,getD_eq_getElem?_getD→Zr,getElem?_append_left→AF,getElem?_eq_getElem→Zz,getElem?_eq_none→BI,getElem?_eq_some_iff→Zw,getElem?_set→CO,getElem?_take→AW,length_cons→AQ,length_nil→BT,map_congr_left→BP,mem_append→BV,mem_filter→CN,mem_map→AG,mem_of_getElem?→AL,mem_range→CB,range→BR
open Nat renaming add_zero→CT,le_refl→AP,lt_trichotomy→FQ,zero_add→BF,zero_le→BS
open Option renaming bind_eq_some_iff→AS,map_eq_some_iff→Zl,map_none→CU,map_some→BK
open Option.some renaming inj→Zm,injEq→Zn
namespace Go.Sak
open Go Go.RowKit
set_option linter.unusedVariables false
set_option linter.unusedSimpArgs false

def Im:Value→Option AV
  | .int k n=>if sL k n then some (.int k n) else none
  | .bool b=>some (.bool b)
  | .string s=>if s.size≤maxLen then some (.str s) else none
  | .pointer none=>some .nilp
  | .slice none 0 0=>some .slnil
  | .map none=>some .mapnil
  | .nilFunc=>some .fnnil
  | .nilIface=>some .ifnil
  | _=>none
def uD:List Value→Option (List AV)
  | []=>some []
  | v :: vs=>match Im v,uD vs with
    | some x,some xs=>some (x :: xs)
    | _,_=>none
def nX (P:Program) (t:TypeId):Option (List AV):=(P.info? t).bind fun i=>i.zero.bind fun z=>uD z.cells.toList
def xT (P:Program) (t:TypeId):Option AV:=(P.info? t).bind fun i=>i.zero.bind fun z=>match z with
  | .agg cs=>(uD cs.toList).map .agg
  | v=>Im v
def bR:Operand→Option Opd
  | .tmp t=>some (.tmp t)
  | .const v=>(Im v).map .const
  | .func f=>some (.func f)
  | .global _=>none
def dM:List Operand→Option (List Opd)
  | []=>some []
  | x :: xs=>match bR x,dM xs with
    | some y,some ys=>some (y :: ys)
    | _,_=>none
def mW (P:Program) (t:TypeId):Option Nat:=(P.info? t).map (·.size)
def gF (P:Program):Nat→List Field→Option (List CK)
  | _,[]=>some []
  | i, f :: fs => if f.name ≠ "_" ∧ f.offset = i then match P.underlying f.type, gF P (i + 1) fs with
      | some (.int k),some ks=>some (.int k :: ks)
      | some .bool,some ks=>some (.bool :: ks)
      | _,_=>none
    else none
def kY (place:Nat→Option (Nat×Nat)):List (Nat×Operand)→Option (List (Nat×Nat×Opd))
  | []=>some []
  | (i,x) :: l=>match place i,bR x,kY place l with
    | some (o,n),some y,some r=>some ((o,n,y) :: r)
    | _,_,_=>none
def qX:Option Operand→Option (Option Opd)
  | none=>some none
  | some x=>(bR x).map some
def jX:Nat→List (Nat×Operand)→Option (List Operand)
  | _,[]=>some []
  | k,(i,x) :: l=>if i=k then (jX (k+1) l).map (x :: ·) else none

def Ax (P:Program) (op:BinOp) (t:TypeId) (x y:Operand):Option AOp :=
  match P.underlying t with
  | some (.int _)=>match bR x,bR y with
    | some a,some b=>some (.bin op a b)
    | _,_=>none
  | some .bool=>match bR x,bR y,op with
    | some a,some b,.eql=>some (.eqb false a b)
    | some a,some b,.neq=>some (.eqb true a b)
    | _,_,_=>none
  | some (.struct fs)=>if P.stoodInHeld t=false∧P.eqGuardType P.depth t=false then match bR x,bR y,op,gF P 0 fs.toList with
    | some a,some b,.eql,some ks=>some (.eqs false ks a b)
    | some a,some b,.neq,some ks=>some (.eqs true ks a b)
    | _,_,_,_=>none
    else none
  | some (.slice _)=>match y with
    | .const (.slice none 0 0)=>match bR x,op with
      | some a,.eql=>some (.eqn false a)
      | some a,.neq=>some (.eqn true a)
      | _,_=>none
    | _=>none
  | _=>none

def pR (P:Program) (name:String) (t:Nat):Option (Nat×Nat) :=
  match P.info? t with
  | none=>none
  | some i=>match i.methods.find? (·.name == name) with
    | none=>none
    | some m=>match m.path.toList,m.func,P.underlying t with
      | [],some (f,true),some (.pointer _)=>some (t,f)
      | _,_,_=>none
def Il (P:Program) (name:String):List (Nat×Nat):=(BR P.types.size).filterMap (pR P name)
def Be:List (Nat×Nat)→Nat→Option Nat
  | [],_=>none
  | p :: l,t=>if t=p.1 then some p.2 else Be l t
theorem sO:∀ {l:List (Nat×Nat)} {t f:Nat},Be l t=some f→(t,f)∈l
  | [],t,f,h=>by cases h
  | p :: l,t,f,h=>by
    simp only [Be] at h
    split at h
    · rename_i e; subst e; obtain rfl:=Zm h; exact List.mem_cons_self ..
    · exact List.mem_cons_of_mem _ (sO h)
theorem Ai {P:Program} {name:String} {t f:Nat} (h:Be (Il P name) t=some f):pR P name t=some (t,f):=by
  obtain ⟨u,h1,h2⟩:=List.mem_filterMap.1 (sO h)
  have : u=t:=by
    unfold pR at h2
    split at h2
    · cases h2
    · split at h2
      · cases h2
      · split at h2
        · simp only [Zn,Prod.mk.injEq] at h2; exact h2.1
        · cases h2
  rw [← this]; rw [h2,this]

def qW (P:Program) (c:Call):Option AOp :=
  match c.callee with
  | .value (.func f)=>(dM c.args.toList).map (.call f)
  | .value x=>match bR x,dM c.args.toList with
    | some y,some ys=>some (.callv y ys)
    | _,_=>none
  | .invoke x name=>match bR x,dM c.args.toList with
    | some y,some ys=>some (.invoke y (Il P name) ys)
    | _,_=>none
  | .builtin .len=>match c.args.toList,c.argTypes.toList with
    | [x],[t]=>match P.underlying t,bR x with
      | some (.slice _),some y=>some (.len y)
      | _,_=>none
    | _,_=>none
  | .builtin .min=>match dM c.args.toList with
    | some [x,y]=>some (.mn x y)
    | _=>none
  | .builtin .max=>match dM c.args.toList with
    | some [x,y]=>some (.mx x y)
    | _=>none
  | .builtin .append=>match c.argTypes.toList,dM c.args.toList with
    | [t,t'],some [x,y]=>if t=t' then match P.underlying t with
      | some (.slice e)=>match P.info? e with
        | some i=>if 0<i.size∧(i.zero.map (·.cells.size))=some i.size then some (.app e i.size i.bytes x y) else none
        | none=>none
      | _=>none else none
    | _,_=>none
  | .builtin .copy=>match c.argTypes.toList,dM c.args.toList with
    | [t,_],some [x,y]=>match P.underlying t with
      | some (.slice e)=>(mW P e).map fun n=>.cpy n x y
      | _=>none
    | _,_=>none
  | .builtin .delete=>match c.argTypes.toList,dM c.args.toList with
    | [t,_],some [x,y]=>match P.underlying t with
      | some (.map k _)=>match P.underlying k with
        | some (.int _)=>some (.mdel x y)
        | _=>none
      | _=>none
    | _,_=>none
  | _=>none

def Di (P:Program) (o:Oper):Option AOp :=
  match o.op with
  | .move x | .assign x=>(bR x).map .mv
  | .pick c a b=>match bR c,bR a,bR b with
    | some c,some a,some b=>some (.pick c a b)
    | _,_,_=>none
  | .extract x i=>(bR x).map (.ext · i)
  | .unOp .not _ x=>(bR x).map .not
  | .binOp op t x y _=>Ax P op t x y
  | .convert s d x=>if (P.underlying s).isSome then match P.underlying d with
    | some (.int k)=>(bR x).map (.conv k)
    | _=>none else none
  | .fieldAddr s x fi=>match P.underlying s with
    | some (.struct fs)=>match fs[fi]? with
      | some f=>match mW P f.type with
        | some n=>if n≠0 then (bR x).map (.faddr f.offset) else none
        | none=>none
      | none=>none
    | _=>none
  | .field t x fi=>match P.underlying t with
    | some (.struct fs)=>match fs[fi]? with
      | some f=>match mW P f.type,P.underlying f.type with
        | some n,some d=>(bR x).map (.fld f.offset n (mU d))
        | _,_=>none
      | none=>none
    | _=>none
  | .indexAddr t x i=>match P.underlying t with
    | some (.slice e)=>match mW P e,bR x,bR i with
      | some n,some a,some b=>some (.iaddr n a b)
      | _,_,_=>none
    | some (.array len e)=>match mW P e,bR x,bR i with
      | some n,some a,some b=>some (.aaddr len n a b)
      | _,_,_=>none
    | _=>none
  | .nilCheck x=>(bR x).map .nilchk
  | .build t parts=>match nX P t,P.underlying t with
    | some z,some (.struct fs)=>if fs.toList.all (fun f=>((P.info? f.type).map (·.size)).isSome) then
        (kY (fun i=>(fs[i]?).map fun f=>(f.offset,P.cellsOf f.type)) parts.toList).map (.build z) else none
    | some z,some (.array _ e)=>match mW P e with
      | some n=>(kY (fun i=>some (i * n,n)) parts.toList).map (.build z)
      | none=>none
    | _,_=>none
  | .makeFunc (.func f) a b=>match dM a.toList,dM b.toList with
    | some x,some y=>some (.mkfn (.func f) x y)
    | _,_=>none
  | .makeInterface t x=>if P.concrete t then (bR x).map (.mkif t) else none
  | .typeAssert x _ t ok=>if P.concrete t then (bR x).map (.tassert t ok) else none
  | .slice t x lo hi none=>match P.underlying t with
    | some (.slice e)=>match mW P e,bR x,qX lo,qX hi with
      | some n,some a,some b,some c=>some (.slc n a b c)
      | _,_,_,_=>none
    | _=>none
  | .load t x=>match P.underlying t,mW P t with
    | some d,some n=>(bR x).map (.ld n (mU d))
    | _,_=>none
  | .store t x v=>match mW P t,bR x,bR v with
    | some n,some a,some b=>some (.st n a b)
    | _,_,_=>none
  | .lookup t m k ok=>match P.underlying t with
    | some (.map kt et)=>match P.underlying kt,xT P et,bR m,bR k with
      | some (.int _),some z,some a,some b=>some (.lkp z ok a b)
      | _,_,_,_=>none
    | _=>none
  | .mapUpdate t m k v | .insert t m k v=>match P.underlying t with
    | some (.map kt _)=>match P.underlying kt,bR m,bR k,bR v with
      | some (.int _),some a,some b,some c=>some (.mupd a b c)
      | _,_,_,_=>none
    | _=>none
  | .makeMap _ none=>some .mkmap
  | .makeSlice t l c=>match P.underlying t with
    | some (.slice e)=>match P.info? e,nX P e,bR l,bR c with
      | some i,some z,some a,some b=>if 0<i.size then some (.mkslice e i.size z i.bytes a b) else none
      | _,_,_,_=>none
    | _=>none
  | .alloc t=>(nX P t).map (.alloc t)
  | .box t x=>(bR x).map (.box t)
  | .buildSlice t n parts=>match P.underlying t with
    | some (.slice e)=>match mW P e,nX P e,jX 0 parts.toList with
      | some sz,some (z :: _),some l=>if n * sz≤16777216 then (dM l).map (.bslice e sz n) else none
      | _,_,_=>none
    | _=>none
  | .call c=>qW P c
  | _=>none

variable {P:Program} {c:Ctx}

theorem lO {v:Value} {x:AV} (h:Im v=some x):VR c x v∧x.one=true:=by
  unfold Im at h
  split at h
  · split at h
    · obtain rfl:=Zm h; exact ⟨.int _ _ (by assumption),rfl⟩
    · cases h
  · obtain rfl:=Zm h; exact ⟨.bool _,rfl⟩
  · split at h
    · obtain rfl:=Zm h; exact ⟨.str _ (by assumption),rfl⟩
    · cases h
  · obtain rfl:=Zm h; exact ⟨.nilp,rfl⟩
  · obtain rfl:=Zm h; exact ⟨.slnil,rfl⟩
  · obtain rfl:=Zm h; exact ⟨.mapnil,rfl⟩
  · obtain rfl:=Zm h; exact ⟨.fnnil,rfl⟩
  · obtain rfl:=Zm h; exact ⟨.ifnil,rfl⟩
  · cases h

theorem mF:∀ {vs:List Value} {xs:List AV},uD vs=some xs→vs.length=xs.length∧∀ (i:Nat) (x:AV),xs[i]?=some x→x.one=true∧VR c x (vs.getD i bX)
  | [],xs,h=>by simp only [uD,Zn] at h; subst h; simp
  | v :: vs,xs,h=>by
    simp only [uD] at h
    split at h
    · rename_i x xs' h1 h2
      obtain rfl:=Zm h
      obtain ⟨k1,k2⟩:=mF h2
      refine ⟨by simp [k1],fun i y hi=>?_⟩
      cases i with
      | zero=>simp at hi; subst hi; exact ⟨(lO (c:=c) h1).2,by simpa using (lO (c:=c) h1).1⟩
      | succ i=>simpa using k2 i y (by simpa using hi)
    · cases h

theorem gA {t:TypeId} {xs:List AV} (h:nX P t=some xs):∃ i z,P.info? t=some i∧i.zero=some z∧CR c xs z.cells:=by
  unfold nX at h
  rw [AS] at h
  obtain ⟨i,hi,h⟩:=h
  rw [AS] at h
  obtain ⟨z,hz,h⟩:=h
  obtain ⟨k1,k2⟩:=mF (c:=c) h
  exact ⟨i,z,hi,hz,by simpa using k1,fun i x hi=>by simpa [Zp,Zr] using k2 i x hi⟩

theorem uR {t:TypeId} {x:AV} (h:xT P t=some x):∃ i z,P.info? t=some i∧i.zero=some z∧VR c x z:=by
  unfold xT at h
  rw [AS] at h
  obtain ⟨i,hi,h⟩:=h
  rw [AS] at h
  obtain ⟨z,hz,h⟩:=h
  refine ⟨i,z,hi,hz,?_⟩
  split at h
  · rename_i cs
    rw [Zl] at h
    obtain ⟨xs,h1,rfl⟩:=h
    obtain ⟨k1,k2⟩:=mF (c:=c) h1
    exact .agg _ _ (by simpa using k1.symm) (fun i x hi=>(k2 i x hi).1) (fun i x hi=>by simpa [Zp,Zr] using (k2 i x hi).2)
  · exact (lO h).1

theorem aK {x:Operand} {y:Opd} {env:List AV} {a:Act} (h:bR x=some y) (he:ER c env a.tmps):VR c (y.eval env) (a.eval x):=by
  cases x with
  | tmp t=>simp only [bR,Zn] at h; subst h; exact he.get t
  | const v =>
    simp only [bR,Zl] at h
    obtain ⟨z,h1,rfl⟩:=h
    exact (lO h1).1
  | func f=>simp only [bR,Zn] at h; subst h; exact .fn _ _ _ _ _ rfl rfl (by simp) (by simp)
  | global g=>simp [bR] at h

theorem eT {env:List AV} {a:Act} (he:ER c env a.tmps):∀ {xs:List Operand} {ys:List Opd},dM xs=some ys→xs.length=ys.length ∧
    ∀ (i:Nat) (y:AV),(ys.map (·.eval env))[i]?=some y→VR c y ((xs.map a.eval).getD i bX)
  | [],ys,h=>by simp only [dM,Zn] at h; subst h; simp
  | x :: xs,ys,h=>by
    simp only [dM] at h
    split at h
    · rename_i y ys' h1 h2
      obtain rfl:=Zm h
      obtain ⟨k1,k2⟩:=eT he h2
      refine ⟨by simp [k1],fun i y hi=>?_⟩
      cases i with
      | zero=>simp at hi; subst hi; simpa using aK h1 he
      | succ i=>simpa using k2 i y (by simpa using hi)
    · cases h

theorem jN {env:List AV} {a:Act} (he:ER c env a.tmps) {place:Nat→Option (Nat×Nat)}:∀ {l:List (Nat×Operand)} {r:List (Nat×Nat×Opd)},kY place l=some r →
    PR c place (l.map fun (i,x)=>(i,a.eval x)) (r.map fun (o,n,x)=>(o,n,x.eval env))
  | [],r,h=>by simp only [kY,Zn] at h; subst h; exact .nil
  | (i,x) :: l,r,h=>by
    simp only [kY] at h
    split at h
    · rename_i o n y r' h1 h2 h3
      obtain rfl:=Zm h
      exact .cons h1 (aK h2 he) (jN he h3)
    · cases h

theorem gE {w : World} {d:Nat}:∀ {fs:List Field} {i:Nat} {ks:List CK} {xs ys:List AV} {vs us:Array Value} {r:Bool},gF P i fs=some ks →
    (∀ (j:Nat) (x:AV),xs[j]?=some x→VR c x (vs.getD (i+j) bX)∧i+j<vs.size)→(∀ (j:Nat) (x:AV),ys[j]?=some x→VR c x (us.getD (i+j) bX)∧i+j<us.size) →
    kindOk ks xs=true→kindOk ks ys=true→cellsEq xs ys=some r→(Op.eqFields (d+1) vs us fs).run P w=.ok r w
  | [],i,ks,xs,ys,vs,us,r,hk,hx,hy,k1,k2,h=>by
    simp only [gF,Zn] at hk; subst hk
    cases xs with
    | nil=>cases ys with
      | nil=>simp only [cellsEq,Zn] at h; subst h; simp [Op.eqFields]
      | cons _ _=>simp [kindOk] at k2
    | cons _ _=>simp [kindOk] at k1
  | f :: fs, i,ks,xs,ys,vs,us,r,hk,hx,hy,k1,k2,h=>by
    simp only [gF] at hk
    split at hk
    · rename_i hq
      obtain ⟨hn,ho⟩:=hq
      have cell:∀ (d0:TypeDesc) (zs:Array Value) (v:Value),P.underlying f.type=some d0→mU d0=false→zs.getD i bX=v→i<zs.size→(Go.part f.type zs f.offset).run P w=.ok v w:=by
        intro d0 zs v hd ha hv hlt
        simp only [Go.part,Sem.run_bind,fW hd,ha,Result.andThen_ok,AK,if_false,ho]
        rw [CM hlt]
        have:zs[i]=v:=by simpa [Zp,hlt] using hv
        simp [this]
      split at hk
      · rename_i k ks' hd hks
        obtain rfl:=Zm hk
        cases xs with
        | nil=>simp [kindOk] at k1
        | cons x xs=>cases ys with
          | nil=>simp [kindOk] at k2
          | cons y ys =>
            cases x <;> simp only [kindOk,AK] at k1
            cases y <;> simp only [kindOk,AK] at k2
            rename_i kx a ky b
            rw [Zq,decide_eq_true_eq] at k1 k2
            obtain ⟨rfl,k1⟩:=k1
            obtain ⟨rfl,k2⟩:=k2
            simp only [cellsEq,if_pos,Zl] at h
            obtain ⟨r',h,rfl⟩:=h
            obtain ⟨hx0,hxl⟩:=hx 0 _ rfl
            obtain ⟨hy0,hyl⟩:=hy 0 _ rfl
            rw [CT] at hx0 hxl hy0 hyl
            generalize hv:vs.getD i bX=v at hx0
            generalize hu:us.getD i bX=u at hy0
            cases hx0; cases hy0
            have c1:=cell _ vs _ hd rfl hv hxl
            have c2:=cell _ us _ hd rfl hu hyl
            have ih:=gE (w:=w) (d:=d) (xs:=xs) (ys:=ys) (vs:=vs) (us:=us) hks (fun j x hj=>by have:=hx (j+1) x (by simpa using hj); rwa [show i+(j+1)=i+1+j from by omega] at this)
              (fun j x hj=>by have:=hy (j+1) x (by simpa using hj); rwa [show i+(j+1)=i+1+j from by omega] at this) k1 k2 h
            simp only [Op.eqFields,if_pos hn,Sem.run_bind,c1,c2,Result.andThen_ok,run_equalIn_int w d f.type k k a b hd]
            by_cases hab:a=b
            · subst hab; simp [ih]
            · have e:(a == b)=false:=by simpa using hab
              simp [e,hab]
      · rename_i ks' hd hks
        obtain rfl:=Zm hk
        cases xs with
        | nil=>simp [kindOk] at k1
        | cons x xs=>cases ys with
          | nil=>simp [kindOk] at k2
          | cons y ys =>
            cases x <;> simp only [kindOk,AK] at k1
            cases y <;> simp only [kindOk,AK] at k2
            rename_i a b
            simp only [cellsEq,Zl] at h
            obtain ⟨r',h,rfl⟩:=h
            obtain ⟨hx0,hxl⟩:=hx 0 _ rfl
            obtain ⟨hy0,hyl⟩:=hy 0 _ rfl
            rw [CT] at hx0 hxl hy0 hyl
            generalize hv:vs.getD i bX=v at hx0
            generalize hu:us.getD i bX=u at hy0
            cases hx0; cases hy0
            have c1:=cell _ vs _ hd rfl hv hxl
            have c2:=cell _ us _ hd rfl hu hyl
            have ih:=gE (w:=w) (d:=d) (xs:=xs) (ys:=ys) (vs:=vs) (us:=us) hks (fun j x hj=>by have:=hx (j+1) x (by simpa using hj); rwa [show i+(j+1)=i+1+j from by omega] at this)
              (fun j x hj=>by have:=hy (j+1) x (by simpa using hj); rwa [show i+(j+1)=i+1+j from by omega] at this) k1 k2 h
            simp only [Op.eqFields,if_pos hn,Sem.run_bind,c1,c2,Result.andThen_ok,run_equalIn_bool' w d f.type a b hd]
            cases hab:(a == b)
            · simp
            · simp [ih]
      · cases hk
    · cases hk

theorem zY {dU:Bool} {t:TypeId} {fs:Array Field} {ks:List CK} {x y r:AV} {v u:Value} (ht:P.underlying t=some (.struct fs)) (hs:P.stoodInHeld t=false) (hk:gF P 0 fs.toList=some ks)
    (hx:VR c x v) (hy:VR c y u) (h:aL dU ks x y=some r) (w:World):∃ z,(binOp (if dU then .neq else .eql) t v u).run P w=.ok z w∧VR c r z:=by
  cases x with
  | agg xs => cases y with
    | agg ys =>
      simp only [aL] at h
      split at h
      · rename_i hq
        rw [Zq] at hq
        rw [Zl] at h
        obtain ⟨b,hb,rfl⟩:=h
        obtain ⟨vs,rfl,h1,h2,h3⟩:=iF hx
        obtain ⟨us,rfl,g1,g2,g3⟩:=iF hy
        have hf:P.fieldsOf t=fs:=by simp [Program.fieldsOf,ht]
        have hrun:=run_equalIn_struct (P:=P) w 9999 t vs us (by rw [hf]; exact ht) hs
        rw [hf,gE (c:=c) (d:=9998) hk (fun j x hj=>⟨by simpa using h3 j x hj,by rw [BF,← h1]; exact (Zw.1 hj).1⟩)
          (fun j x hj=>⟨by simpa using g3 j x hj,by rw [BF,← g1]; exact (Zw.1 hj).1⟩) hq.1 hq.2 hb] at hrun
        exact ⟨_,gS dU b w rfl rfl hrun,.bool _⟩
      · cases h
    | _=>simp [aL] at h
  | _=>simp [aL] at h

variable {P:Program} {c:Ctx}

def Nx (c:Ctx) (g0:Nat) (r:OR) (o:Oper) (a:Act) (K:Act→World→Prop):Prop :=
  ∀ c' v,Gd c'→St c c'→c'.m=ups c.m r.ups→(∀ n,c'.U n→n=g0∨c.U n)→VR c' r.v v→K (a.put o.dst v) c'.w

theorem cR {o:Oper} {a:Act} {g0:Nat} {r:OR} {s:Sem Value} {K:Act→World→Prop} {Q:Exit→Act→World→Prop} (hx:execOp a.eval o=(do pure (.value (← s)):Sem Next)) (h:Ok P c g0 r s) (hK:Nx c g0 r o a K) :
    o.wp P a c.w K Q:=by
  obtain ⟨c',z,h1,h2,h3,h4,h5,h6⟩:=h
  unfold Oper.wp
  rw [hx]
  simp only [Sem.run_bind,h1,Result.andThen_ok,Sem.run_pure,Oper.upon]
  exact hK c' z h2 h3 h4 h5 h6

theorem bA {o:Oper} {a:Act} {g0:Nat} {r:OR} {s:Sem Value} {K:Act→World→Prop} {Q:Exit→Act→World→Prop} (hc:Gd c) (hx:execOp a.eval o=(do pure (.value (← s)):Sem Next)) (hr:r.ups=[])
    (h:∃ z,s.run P c.w=.ok z c.w∧VR c r.v z) (hK:Nx c g0 r o a K):o.wp P a c.w K Q:=by
  obtain ⟨z,h1,h2⟩:=h
  exact cR hx (Ok.same hc h1 hr h2) hK

theorem jM {o:Oper} {a:Act} {g0:Nat} {r:OR} {s:Sem Unit} {K:Act→World→Prop} {Q:Exit→Act→World→Prop} (hx:execOp a.eval o=(do s; pure .skip:Sem Next))
    (h:∃ c',s.run P c.w=.ok () c'.w∧Gd c'∧St c c'∧c'.m=ups c.m r.ups∧(∀ n,c'.U n→n=g0∨c.U n)∧r.v=.und) (hK:Nx c g0 r o a K):o.wp P a c.w K Q:=by
  obtain ⟨c',h1,h2,h3,h4,h5,h6⟩:=h
  unfold Oper.wp
  rw [hx]
  simp only [Sem.run_bind,h1,Result.andThen_ok,Sem.run_pure,Oper.upon]
  exact hK c' _ h2 h3 h4 h5 (by rw [h6]; exact .und _)

theorem jL {o:Oper} {a:Act} {g0:Nat} {r:OR} {v:Value} {K:Act→World→Prop} {Q:Exit→Act→World→Prop} (hc:Gd c) (hx:execOp a.eval o=(pure (.value v):Sem Next)) (hr:r.ups=[]) (hv:VR c r.v v) (hK:Nx c g0 r o a K) :
    o.wp P a c.w K Q:=by
  unfold Oper.wp
  rw [hx]
  simp only [Sem.run_pure,Oper.upon]
  exact hK c v hc (St.refl c) (by rw [hr]; rfl) (fun _ h=>.inr h) hv

theorem jF {m:Nat→Option Blk} {x:AV} {rd:List Nat} (h:dT m x=some rd) (g row o:Nat) (e:x=.ptr g row o):(m g).isSome=true:=by
  subst e
  simp only [dT] at h
  split at h
  · assumption
  · cases h

theorem pE {op:BinOp} {t:TypeId} {x y:Operand} {v u:Value} (h:P.eqGuardType P.depth t=false) (hv:∃ cs,v=.agg cs) (w:World):(eqGuard op t x y v u).run P w=.ok () w:=by
  obtain ⟨cs,rfl⟩:=hv
  unfold eqGuard
  cases op <;> cases u <;> simp [h]
theorem fM {op:BinOp} {t:TypeId} {x y:Operand} {v u:Value} (h1:∀ cs,v≠.agg cs) (h2:v≠.nilIface) (w:World):(eqGuard op t x y v u).run P w=.ok () w:=by
  unfold eqGuard
  cases op <;> cases v <;> first | exact absurd rfl (h1 _) | exact absurd rfl h2 | simp

theorem Bl {op:BinOp} {t yt:TypeId} {x y:Operand} {o:Oper} {X:AOp} {env:List AV} {a:Act} {g0:Nat} {r:OR} {K:Act→World→Prop} {Q:Exit→Act→World→Prop} (hc:Gd c) (he:ER c env a.tmps)
    (hop:o.op=.binOp op t x y yt) (hx:Ax P op t x y=some X) (h:aop c.m env g0 X=some r) (hK:Nx c g0 r o a K):o.wp P a c.w K Q:=by
  have hex:execOp a.eval o=(do pure (.value (← (do eqGuard op t x y (a.eval x) (a.eval y); binOp op t (a.eval x) (a.eval y)))):Sem Next):=by simp only [execOp,hop]
  have fin:∀ (v:AV),r={ v:=v }→(∀ w:World,(eqGuard op t x y (a.eval x) (a.eval y)).run P w=.ok () w)→(∃ z,(binOp op t (a.eval x) (a.eval y)).run P c.w=.ok z c.w∧VR c v z)→o.wp P a c.w K Q:=by
    rintro v rfl h1 ⟨z,h2,h3⟩
    exact bA hc hex rfl ⟨z,by simp only [Sem.run_bind,h1,Result.andThen_ok,h2],h3⟩ hK
  have finr:r.ups=[]→(∀ w:World,(eqGuard op t x y (a.eval x) (a.eval y)).run P w=.ok () w)→(∃ z,(binOp op t (a.eval x) (a.eval y)).run P c.w=.ok z c.w∧VR c r.v z)→o.wp P a c.w K Q:=by
    rintro hu h1 ⟨z,h2,h3⟩
    exact bA hc hex hu ⟨z,by simp only [Sem.run_bind,h1,Result.andThen_ok,h2],h3⟩ hK
  unfold Ax at hx
  split at hx
  · split at hx
    · rename_i A B h1 h2
      obtain rfl:=Zm hx
      simp only [aop,Zl] at h
      obtain ⟨v,hv,rfl⟩:=h
      have r1:=aK h1 he
      have r2:=aK h2 he
      refine fin v rfl (fM ?_ ?_) (zJ r1 r2 hv c.w)
      · intro cs e
        rw [e] at r1
        revert hv r1
        generalize A.eval env=z
        intro hv r1
        cases r1 <;> simp [iX] at hv
      · intro e
        rw [e] at r1
        revert hv r1
        generalize A.eval env=z
        intro hv r1
        cases r1 <;> simp [iX] at hv
    · cases hx
  · rename_i hb
    have go:∀ (dU:Bool) (A B:Opd),op=(if dU then .neq else .eql)→bR x=some A→bR y=some B→X=.eqb dU A B→o.wp P a c.w K Q:=by
      rintro dU A B rfl h1 h2 rfl
      simp only [aop,Zl] at h
      obtain ⟨v,hv,rfl⟩:=h
      have r1:=aK h1 he
      have r2:=aK h2 he
      refine fin v rfl (fM ?_ ?_) (zW hb r1 r2 hv c.w)
      · intro cs e
        rw [e] at r1
        revert hv r1
        generalize A.eval env=z
        intro hv r1
        cases r1 <;> simp [doEqb] at hv
      · intro e
        rw [e] at r1
        revert hv r1
        generalize A.eval env=z
        intro hv r1
        cases r1 <;> simp [doEqb] at hv
    split at hx
    · rename_i A B h1 h2; exact go false A B rfl h1 h2 (Zm hx).symm
    · rename_i A B h1 h2; exact go true A B rfl h1 h2 (Zm hx).symm
    · cases hx
  · rename_i fs hs
    split at hx
    · rename_i hq
      have go:∀ (dU:Bool) (A B:Opd) (ks:List CK),op=(if dU then .neq else .eql)→bR x=some A→bR y=some B→gF P 0 fs.toList=some ks→X=.eqs dU ks A B→o.wp P a c.w K Q:=by
        rintro dU A B ks rfl h1 h2 h3 rfl
        simp only [aop,Zl] at h
        obtain ⟨v,hv,rfl⟩:=h
        have r1:=aK h1 he
        have r2:=aK h2 he
        refine fin v rfl (pE hq.2 ?_) (zY hs hq.1 h3 r1 r2 hv c.w)
        revert hv r1
        generalize A.eval env=z
        intro hv r1
        cases z <;> simp [aL] at hv
        obtain ⟨vs,e,_⟩:=iF r1
        exact ⟨vs,e⟩
      split at hx
      · rename_i A B ks h1 h2 h3; exact go false A B ks rfl h1 h2 h3 (Zm hx).symm
      · rename_i A B ks h1 h2 h3; exact go true A B ks rfl h1 h2 h3 (Zm hx).symm
      · cases hx
    · cases hx
  · rename_i e hs
    split at hx
    · have go:∀ (dU:Bool) (A:Opd),op=(if dU then .neq else .eql)→bR x=some A→X=.eqn dU A→o.wp P a c.w K Q:=by
        rintro dU A rfl h1 rfl
        simp only [aop] at h
        have hv:=h
        have r1:=aK h1 he
        obtain ⟨hu,hz⟩:=zX hs r1 h c.w
        refine finr hu (fM ?_ ?_) hz
        · intro cs e
          rw [e] at r1
          revert hv r1
          generalize A.eval env=z
          intro hv r1
          cases r1 <;> simp [gU] at hv
        · intro e
          rw [e] at r1
          revert hv r1
          generalize A.eval env=z
          intro hv r1
          cases r1 <;> simp [gU] at hv
      split at hx
      · rename_i A h1; exact go false A rfl h1 (Zm hx).symm
      · rename_i A h1; exact go true A rfl h1 (Zm hx).symm
      · cases hx
    · cases hx
  · cases hx

theorem zL {cl : Call} {o:Oper} {X:AOp} {env:List AV} {a:Act} {g0:Nat} {r:OR} {K:Act→World→Prop} {Q:Exit→Act→World→Prop} (hc:Gd c) (he:ER c env a.tmps) (hg:¬ c.U g0)
    (hop:o.op=.call cl) (hx:qW P cl=some X) (h:aop c.m env g0 X=some r) (hK:Nx c g0 r o a K):o.wp P a c.w K Q:=by
  obtain ⟨callee,args,argTypes⟩:=cl
  obtain ⟨args⟩:=args
  obtain ⟨argTypes⟩:=argTypes
  have two : ∀ {X Y:Opd},dM args=some [X,Y]→∃ x y,args=[x,y]∧bR x=some X∧bR y=some Y:=by
    intro X Y hh
    match args with
    | []=>simp [dM] at hh
    | [x] =>
      simp only [dM] at hh
      split at hh
      · rename_i h2
        simp at h2 hh
        subst h2
        simp at hh
      · cases hh
    | [x, y] =>
      simp only [dM] at hh
      split at hh
      · rename_i A As h1 h2
        split at h2
        · rename_i B Bs h3 h4
          simp at h2 hh
          subst h2
          obtain ⟨rfl,e⟩:=hh
          simp at h4
          subst h4
          simp at e
          subst e
          exact ⟨x,y,rfl,h1,h3⟩
        · cases h2
      · cases hh
    | x :: y :: z :: rest =>
      exfalso
      have:=(eT he hh).1
      simp at this
  unfold qW at hx
  split at hx
  · simp only [Zl] at hx; obtain ⟨_,_,rfl⟩:=hx; simp [aop] at h
  · split at hx
    · obtain rfl:=Zm hx; simp [aop] at h
    · cases hx
  · split at hx
    · obtain rfl:=Zm hx; simp [aop] at h
    · cases hx
  · -- len
    rename_i hcal
    simp only at hcal
    subst hcal
    split at hx
    · rename_i x t ha hta
      simp only at ha hta
      subst ha; subst hta
      split at hx
      · rename_i e Y hs hy
        obtain rfl:=Zm hx
        simp only [aop] at h
        have r1:=aK hy he
        obtain ⟨k1,k2⟩:=Ad (ty:=o.type) hs hc r1 h c.w
        exact bA hc (s:=Builtin.len_ #[t] o.type #[a.eval x]) (by simp [execOp,hop,resolve,invoke,builtin]) k1 k2 hK
      · cases hx
    · cases hx
  · -- min
    rename_i hcal
    simp only at hcal
    subst hcal
    split at hx
    · rename_i X Y ha
      obtain ⟨x,y,rfl,h1,h2⟩:=two ha
      obtain rfl:=Zm hx
      simp only [aop,Zl] at h
      obtain ⟨v,hv,rfl⟩:=h
      exact bA hc (s:=Builtin.min_ ⟨argTypes⟩ o.type #[a.eval x,a.eval y]) (by simp [execOp,hop,resolve,invoke,builtin]) rfl (Cj (aK h1 he) (aK h2 he) hv c.w) hK
    · cases hx
  · -- max
    rename_i hcal
    simp only at hcal
    subst hcal
    split at hx
    · rename_i X Y ha
      obtain ⟨x,y,rfl,h1,h2⟩:=two ha
      obtain rfl:=Zm hx
      simp only [aop,Zl] at h
      obtain ⟨v,hv,rfl⟩:=h
      exact bA hc (s:=Builtin.max_ ⟨argTypes⟩ o.type #[a.eval x,a.eval y]) (by simp [execOp,hop,resolve,invoke,builtin]) rfl (Ck (aK h1 he) (aK h2 he) hv c.w) hK
    · cases hx
  · -- append
    rename_i hcal
    simp only at hcal
    subst hcal
    split at hx
    · rename_i t t' X Y hta ha
      simp only at hta
      subst hta
      split at hx
      · rename_i htt
        subst htt
        split at hx
        · rename_i e hs
          split at hx
          · rename_i i hi
            split at hx
            · rename_i hq
              obtain rfl:=Zm hx
              obtain ⟨x,y,rfl,h1,h2⟩:=two ha
              obtain ⟨z,hz,hzs⟩:∃ z,i.zero=some z∧z.cells.size=i.size:=by
                have:=hq.2
                rw [Zl] at this
                exact this
              simp only [aop] at h
              exact cR (s:=Builtin.append_ #[t,t] o.type #[a.eval x,a.eval y]) (by simp [execOp,hop,resolve,invoke,builtin]) (Bk hc hg hs ⟨i,hi,hz,rfl,rfl⟩ hzs hq.1 (aK h1 he) (aK h2 he) h) hK
            · cases hx
          · cases hx
        · cases hx
      · cases hx
    · cases hx
  · -- copy
    rename_i hcal
    simp only at hcal
    subst hcal
    split at hx
    · rename_i t t' X Y hta ha
      simp only at hta
      subst hta
      split at hx
      · rename_i e hs
        rw [Zl] at hx
        obtain ⟨n,hn,rfl⟩:=hx
        obtain ⟨x,y,rfl,h1,h2⟩:=two ha
        simp only [aop] at h
        exact cR (g0:=g0) (s:=Builtin.copy_ #[t,t'] o.type #[a.eval x,a.eval y]) (by simp [execOp,hop,resolve,invoke,builtin]) (Bv hc hs hn (aK h1 he) (aK h2 he) h) hK
      · cases hx
    · cases hx
  · -- delete
    rename_i hcal
    simp only at hcal
    subst hcal
    split at hx
    · rename_i t t' X Y hta ha
      simp only at hta
      subst hta
      split at hx
      · rename_i k e hs
        split at hx
        · rename_i ik hk
          obtain rfl:=Zm hx
          obtain ⟨x,y,rfl,h1,h2⟩:=two ha
          simp only [aop] at h
          exact cR (g0:=g0) (s:=Builtin.delete_ #[t,t'] o.type #[a.eval x,a.eval y]) (by simp [execOp,hop,resolve,invoke,builtin]) (Ah hc hs hk (aK h1 he) (aK h2 he) h) hK
        · cases hx
      · cases hx
    · cases hx
  · cases hx

theorem lD:∀ {l:List (Nat×Operand)} {k:Nat} {xs:List Operand},jX k l=some xs→∀ f:Operand→Value,l.map (fun p=>(p.1,f p.2))=((xs.map f).zipIdx k).map fun x:Value×Nat=>(x.2,x.1)
  | [],k,xs,h,f=>by simp only [jX,Zn] at h; subst h; rfl
  | (i,x) :: l,k,xs,h,f=>by
    simp only [jX] at h
    split at h
    · rename_i hik
      subst hik
      rw [Zl] at h
      obtain ⟨ys,h1,rfl⟩:=h
      simp [lD h1 f]
    · cases h

theorem Cl {o:Oper} {X:AOp} {env:List AV} {a:Act} {g0:Nat} {r:OR} {K:Act→World→Prop} {Q:Exit→Act→World→Prop} (hc:Gd c) (he:ER c env a.tmps) (hg:¬ c.U g0)
    (hx:Di P o=some X) (h:aop c.m env g0 X=some r) (hK:Nx c g0 r o a K):o.wp P a c.w K Q:=by
  unfold Di at hx
  split at hx
  · -- move
    rename_i x hop
    rw [Zl] at hx
    obtain ⟨y,h1,rfl⟩:=hx
    simp only [aop,Zn] at h; subst h
    exact jL hc (by simp only [execOp,hop]) rfl (aK h1 he) hK
  · -- assign
    rename_i x hop
    rw [Zl] at hx
    obtain ⟨y,h1,rfl⟩:=hx
    simp only [aop,Zn] at h; subst h
    exact jL hc (by simp only [execOp,hop]) rfl (aK h1 he) hK
  · -- pick
    rename_i x y z hop
    split at hx
    · rename_i A B C h1 h2 h3
      obtain rfl:=Zm hx
      simp only [aop] at h
      split at h
      · rename_i t ht
        obtain rfl:=Zm h
        have r1:=aK h1 he
        rw [ht] at r1
        generalize hb:a.eval x=b at r1
        cases r1
        refine cR (g0:=g0) (s:=do pure (if ← asBool (a.eval x) then a.eval y else a.eval z)) ?_ (Ok.same hc (z:=if t then a.eval y else a.eval z) ?_ rfl ?_) hK
        · simp only [execOp,hop,bind_assoc,pure_bind]
        · simp only [hb,asBool,Sem.run_bind,Sem.run_pure,Result.andThen_ok]
        · cases t
          · exact aK h3 he
          · exact aK h2 he
      · cases h
    · cases hx
  · -- extract
    rename_i x i hop
    rw [Zl] at hx
    obtain ⟨y,h1,rfl⟩:=hx
    simp only [aop,Zl] at h
    obtain ⟨v,hv,rfl⟩:=h
    exact bA hc (s:=Instr.extract (a.eval x) i) (by simp only [execOp,hop]) rfl (zZ (aK h1 he) hv c.w) hK
  · -- not
    rename_i t x hop
    rw [Zl] at hx
    obtain ⟨y,h1,rfl⟩:=hx
    simp only [aop,Zl] at h
    obtain ⟨v,hv,rfl⟩:=h
    exact bA hc (s:=Op.unary .not (a.eval x)) (by simp only [execOp,hop]) rfl (Aj (aK h1 he) hv c.w) hK
  · -- binOp
    rename_i op t x y yt hop
    exact Bl hc he hop hx h hK
  · -- convert
    rename_i s d x hop
    split at hx
    · rename_i hs
      split at hx
      · rename_i k hd
        rw [Zl] at hx
        obtain ⟨y,h1,rfl⟩:=hx
        simp only [aop,Zl] at h
        obtain ⟨v,hv,rfl⟩:=h
        exact bA hc (s:=convert s d (a.eval x)) (by simp only [execOp,hop]) rfl (vV hs hd (aK h1 he) hv c.w) hK
      · cases hx
    · cases hx
  · -- fieldAddr
    rename_i s x fi hop
    split at hx
    · rename_i fs hs
      split at hx
      · rename_i f hf
        split at hx
        · rename_i n hn
          split at hx
          · rename_i hn0
            rw [Zl] at hx
            obtain ⟨y,h1,rfl⟩:=hx
            simp only [aop,AS,Zl] at h
            obtain ⟨rd,hl,v,hv,rfl⟩:=h
            exact bA hc (s:=Instr.fieldAt s (a.eval x) fi) (by simp only [execOp,hop]) rfl (tV hs hf hn hn0 (aK h1 he) (jF hl) hv c.w) hK
          · cases hx
        · cases hx
      · cases hx
    · cases hx
  · -- field
    rename_i t x fi hop
    split at hx
    · rename_i fs hs
      split at hx
      · rename_i f hf
        split at hx
        · rename_i n d hn hd
          rw [Zl] at hx
          obtain ⟨y,h1,rfl⟩:=hx
          simp only [aop,Zl] at h
          obtain ⟨v,hv,rfl⟩:=h
          exact bA hc (s:=Instr.field t (a.eval x) fi) (by simp only [execOp,hop]) rfl (Ab (e:=0) hs hf hd hn (aK h1 he) hv c.w) hK
        · cases hx
      · cases hx
    · cases hx
  · -- indexAddr
    rename_i t x i hop
    split at hx
    · rename_i e hs
      split at hx
      · rename_i n A B hn h1 h2
        obtain rfl:=Zm hx
        simp only [aop] at h
        obtain ⟨k1,k2⟩:=tX hc hs hn (aK h1 he) (aK h2 he) h c.w
        exact bA hc (s:=Instr.indexAt t (a.eval x) (a.eval i)) (by simp only [execOp,hop]) k1 k2 hK
      · cases hx
    · rename_i len e hs
      split at hx
      · rename_i n A B hn h1 h2
        obtain rfl:=Zm hx
        simp only [aop,AS,Zl] at h
        obtain ⟨rd,hl,v,hv,rfl⟩:=h
        exact bA hc (s:=Instr.indexAt t (a.eval x) (a.eval i)) (by simp only [execOp,hop]) rfl (tL hs hn (aK h1 he) (aK h2 he) (jF hl) hv c.w) hK
      · cases hx
    · cases hx
  · -- nilCheck
    rename_i x hop
    rw [Zl] at hx
    obtain ⟨y,h1,rfl⟩:=hx
    simp only [aop,AS,Zl] at h
    obtain ⟨rd,hl,v,hv,rfl⟩:=h
    have r1:=aK h1 he
    have hl':=jF hl
    generalize y.eval env=z at r1 hv hl'
    have key:v=z∧execOp a.eval o=(pure (.value (a.eval x)):Sem Next):=by
      generalize hq:a.eval x=q at r1
      cases r1 with
      | ptr g row off ad hU hA =>
        have:=hA (hl' g row off rfl)
        subst this
        simp only [doNilchk,Zn] at hv
        exact ⟨hv.symm,by simp only [execOp,hop,hq]⟩
      | pv cells ad us _ _ _ _ _ =>
        simp only [doNilchk,Zn] at hv
        exact ⟨hv.symm,by simp only [execOp,hop,hq]⟩
      | fn f fs cs vs us _ _ _ _ =>
        cases f <;> simp only [doNilchk,Zn,reduceCtorEq] at hv
        exact ⟨hv.symm,by simp only [execOp,hop,hq]⟩
      | _=>simp [doNilchk] at hv
    obtain ⟨rfl,hex⟩:=key
    exact jL hc hex rfl r1 hK
  · -- build
    rename_i t parts hop
    split at hx
    · rename_i z fs hz hs
      split at hx
      · rename_i hall
        rw [Zl] at hx
        obtain ⟨ps,h1,rfl⟩:=hx
        obtain ⟨i,zv,hi,hzv,hcr⟩:=gA (c:=c) hz
        simp only [aop,Zl] at h
        obtain ⟨v,hv,rfl⟩:=h
        have:=kE hs ⟨i,hi,hzv⟩ hcr (AA.1 hall) (jN he h1) hv c.w
        have e:(parts.map fun (i,x)=>(i,a.eval x))=(parts.toList.map fun (i,x)=>(i,a.eval x)).toArray:=by apply DN; simp
        exact bA hc (s:=Instr.build t (parts.toList.map fun (i,x)=>(i,a.eval x)).toArray) (by simp only [execOp,hop]; rw [e]) rfl this hK
      · cases hx
    · rename_i z len e hz hs
      split at hx
      · rename_i n hn
        rw [Zl] at hx
        obtain ⟨ps,h1,rfl⟩:=hx
        obtain ⟨i,zv,hi,hzv,hcr⟩:=gA (c:=c) hz
        simp only [aop,Zl] at h
        obtain ⟨v,hv,rfl⟩:=h
        have:=lJ hs ⟨i,hi,hzv⟩ hn hcr (jN he h1) hv c.w
        have e:(parts.map fun (i,x)=>(i,a.eval x))=(parts.toList.map fun (i,x)=>(i,a.eval x)).toArray:=by apply DN; simp
        exact bA hc (s:=Instr.build t (parts.toList.map fun (i,x)=>(i,a.eval x)).toArray) (by simp only [execOp,hop]; rw [e]) rfl this hK
      · cases hx
    · cases hx
  · -- makeFunc
    rename_i f x y hop
    split at hx
    · rename_i A B h1 h2
      obtain rfl:=Zm hx
      simp only [aop,Zn] at h; subst h
      obtain ⟨k1,k2⟩:=eT he h1
      obtain ⟨l1,l2⟩:=eT he h2
      refine bA hc (s:=Instr.makeFunc (.func f) (x.map a.eval) (y.map a.eval)) (by simp only [execOp,hop]) rfl ⟨_,rfl,.fn _ _ _ _ _ (by simp; simpa using k1.symm) (by simp; simpa using l1.symm) (fun i q hi=>?_) (fun i q hi=>?_)⟩ hK
      · simpa [Zp,Zr] using k2 i q hi
      · simpa [Zp,Zr] using l2 i q hi
    · cases hx
  · -- makeInterface
    rename_i t x hop
    split at hx
    · rename_i ht
      rw [Zl] at hx
      obtain ⟨y,h1,rfl⟩:=hx
      simp only [aop,Zn] at h; subst h
      exact bA hc (s:=Instr.makeInterface t (a.eval x)) (by simp only [execOp,hop]) rfl (wV ht (aK h1 he) c.w) hK
    · cases hx
  · -- typeAssert
    rename_i x xt t ok hop
    split at hx
    · rename_i ht
      rw [Zl] at hx
      obtain ⟨y,h1,rfl⟩:=hx
      simp only [aop,Zl] at h
      obtain ⟨v,hv,rfl⟩:=h
      exact bA hc (s:=Instr.typeAssert (a.eval x) xt t ok) (by simp only [execOp,hop]) rfl (qN ht (aK h1 he) hv c.w) hK
    · cases hx
  · -- slice
    rename_i t x lo hi hop
    split at hx
    · rename_i e hs
      split at hx
      · rename_i n A B C hn h1 h2 h3
        obtain rfl:=Zm hx
        simp only [aop] at h
        have opt:∀ (q:Option Operand) (Y:Option Opd),qX q=some Y→(Y.map (·.eval env)=none∧q.map a.eval=none)∨∃ y u,Y.map (·.eval env)=some y∧q.map a.eval=some u∧VR c y u:=by
          intro q Y hq
          cases q with
          | none=>simp only [qX,Zn] at hq; subst hq; exact .inl ⟨rfl,rfl⟩
          | some q =>
            simp only [qX,Zl] at hq
            obtain ⟨y,hy,rfl⟩:=hq
            exact .inr ⟨_,_,rfl,rfl,aK hy he⟩
        exact cR (s:=Instr.sliceAt t (a.eval x) (lo.map a.eval) (hi.map a.eval) none) (by simp only [execOp,hop,CU]) (Cp hc hg hs hn (aK h1 he) (opt lo B h2) (opt hi C h3) h) hK
      · cases hx
    · cases hx
  · -- load
    rename_i t x hop
    split at hx
    · rename_i d n hd hn
      rw [Zl] at hx
      obtain ⟨y,h1,rfl⟩:=hx
      simp only [aop] at h
      obtain ⟨k1,k2⟩:=wR hc hd hn (aK h1 he) h
      exact bA hc (s:=Instr.loadAt t (a.eval x)) (by simp only [execOp,hop]) k1 k2 hK
    · cases hx
  · -- store
    rename_i t x v hop
    split at hx
    · rename_i n A B hn h1 h2
      obtain rfl:=Zm hx
      simp only [aop] at h
      obtain ⟨c',k1,k2,k3,k4,k5,k6,k7⟩:=Cq hc hn (aK h1 he) (aK h2 he) h
      exact jM (s:=Instr.storeAt t (a.eval x) (a.eval v)) (by simp only [execOp,hop]) ⟨c',k1,k2,k3,k4,fun n hn=>by rw [k6] at hn; exact .inr hn,k7⟩ hK
    · cases hx
  · -- lookup
    rename_i t m k ok hop
    split at hx
    · rename_i kt et hs
      split at hx
      · rename_i ik z A B hk hz h1 h2
        obtain rfl:=Zm hx
        simp only [aop] at h
        obtain ⟨i,zv,hi,hzv,hcr⟩:=uR (c:=c) hz
        exact cR (g0:=g0) (s:=Instr.lookup t (a.eval m) (a.eval k) ok) (by simp only [execOp,hop]) (Ch hc hs hk ⟨i,hi,hzv⟩ hcr (aK h1 he) (aK h2 he) h) hK
      · cases hx
    · cases hx
  · -- mapUpdate
    rename_i t m k v hop
    split at hx
    · rename_i kt et hs
      split at hx
      · rename_i ik A B C hk h1 h2 h3
        obtain rfl:=Zm hx
        simp only [aop] at h
        exact jM (g0:=g0) (s:=Instr.mapUpdate t (a.eval m) (a.eval k) (a.eval v)) (by simp only [execOp,hop]) (sU hc hs hk (aK h1 he) (aK h2 he) (aK h3 he) h) hK
      · cases hx
    · cases hx
  · -- insert
    rename_i t m k v hop
    split at hx
    · rename_i kt et hs
      split at hx
      · rename_i ik A B C hk h1 h2 h3
        obtain rfl:=Zm hx
        simp only [aop] at h
        exact jM (g0:=g0) (s:=Instr.mapUpdate t (a.eval m) (a.eval k) (a.eval v)) (by simp only [execOp,hop]) (sU hc hs hk (aK h1 he) (aK h2 he) (aK h3 he) h) hK
      · cases hx
    · cases hx
  · -- makeMap
    rename_i t hop
    obtain rfl:=Zm hx
    simp only [aop,Zn] at h; subst h
    obtain ⟨h1,h2⟩:=hc.move (g0:=g0) hg (k:=none) (by simp) (ni:=⟨c.w.heap.size,0,0⟩) (b:=.mp []) (o:=.map #[] 0) (w':=c.w.alloc (.map #[] 0)) rfl rfl rfl (by simp) (.inl rfl) (by simp)
      (by show (c.w.heap.push _)[c.w.heap.size]?=_; simp) (fun i hi _=>Below.heap_alloc _ _ _ hi) ⟨#[],0,rfl,⟨rfl,by simp [Stmp]⟩,by simp⟩
    have hok:Ok P c g0 { v:=.mapm g0,ups:=[(g0,some (.mp []))] } (Instr.makeMap t none):=by
      refine ⟨c.move g0 none ⟨c.w.heap.size,0,0⟩ (.mp []) (c.w.alloc (.map #[] 0)),.map (some c.w.heap.size),?_,h1,h2,by simp [Ctx.move,eB,ups],fun n hn=>hn,?_⟩
      · simp [Instr.makeMap,Ctx.move]
      · exact VR.mapm g0 _ (Or.inl rfl) (fun _=>by simp [Ctx.move])
    exact cR (s:=Instr.makeMap t none) (by simp only [execOp,hop,CU]) hok hK
  · -- makeSlice
    rename_i t l cc hop
    split at hx
    · rename_i e hs
      split at hx
      · rename_i i z A B hi hz h1 h2
        split at hx
        · rename_i hsz
          obtain rfl:=Zm hx
          simp only [aop] at h
          obtain ⟨i',zv,hi',hzv,hcr⟩:=gA (c:=c) hz
          obtain rfl:i=i':=by rw [hi] at hi'; exact Zm hi'
          exact cR (s:=Instr.makeSlice t (a.eval l) (a.eval cc)) (by simp only [execOp,hop]) (rP hc hg hs ⟨i,hi,hzv,rfl,rfl⟩ hcr hsz (aK h1 he) (aK h2 he) h) hK
        · cases hx
      · cases hx
    · cases hx
  · -- alloc
    rename_i t hop
    rw [Zl] at hx
    obtain ⟨z,hz,rfl⟩:=hx
    simp only [aop] at h
    obtain ⟨i,zv,hi,hzv,hcr⟩:=gA (c:=c) hz
    exact cR (s:=Instr.alloc t true (.tuple #[])) (by simp only [execOp,hop]) (uU hc hg ⟨i,hi,hzv⟩ hcr h) hK
  · -- box
    rename_i t x hop
    rw [Zl] at hx
    obtain ⟨y,h1,rfl⟩:=hx
    simp only [aop] at h
    exact cR (s:=Instr.box t (a.eval x)) (by simp only [execOp,hop]) (Bm hc hg (aK h1 he) h) hK
  · -- buildSlice
    rename_i t n parts hop
    split at hx
    · rename_i e hs
      split at hx
      · rename_i sz z zs l hn hz hl
        split at hx
        · rename_i hsmall
          rw [Zl] at hx
          obtain ⟨ys,h1,rfl⟩:=hx
          simp only [aop] at h
          obtain ⟨i,zv,hi,hzv,hcr⟩:=gA (c:=c) hz
          obtain ⟨k1,k2⟩:=eT he h1
          have hzip:=lD hl a.eval
          refine cR (s:=Instr.buildSlice t n (((l.map a.eval).zipIdx 0).map fun x:Value×Nat=>(x.2,x.1)).toArray) ?_ (tO hc hg hs hn ⟨i,hi,hzv⟩ (by rw [hcr.1]; simp) hsmall (by simp [k1]) k2 h) hK
          have e:(parts.map fun (i,x)=>(i,a.eval x))=(parts.toList.map fun (i,x)=>(i,a.eval x)).toArray:=by apply DN; simp
          simp only [execOp,hop]
          rw [← hzip,e]
        · cases hx
      · cases hx
    · cases hx
  · -- call
    rename_i cl hop
    exact zL hc he hg hop hx h hK
  · cases hx


abbrev AM:=List (Nat×Blk)
def AM.get:AM→Nat→Option Blk
  | [],_=>none
  | (k,b) :: l,g=>if g=k then some b else AM.get l g
def AM.del:AM→Nat→AM
  | [],_=>[]
  | (k,b) :: l,g=>if g=k then AM.del l g else (k,b) :: AM.del l g
def AM.rep:AM→Nat→Blk→AM
  | [],g,b=>[(g,b)]
  | (k,b') :: l,g,b=>if g=k then (k,b) :: l else (k,b') :: AM.rep l g b
def AM.upd (m:AM):List (Nat×Option Blk)→AM
  | []=>m
  | (g,some b) :: l=>AM.upd (m.rep g b) l
  | (g,none) :: l=>AM.upd (m.del g) l

theorem AM.get_del:∀ (m:AM) (g:Nat),(m.del g).get=put m.get g none
  | [],g=>by funext n; simp [AM.del,AM.get,put]
  | (k,b) :: l,g=>by
    funext n
    have ih:=congrFun (AM.get_del l g) n
    simp only [put] at ih
    by_cases hk:g=k
    · subst hk
      simp only [AM.del,if_pos,ih,AM.get,put]
      by_cases hn:n=g <;> simp [hn]
    · simp only [AM.del,if_neg hk,AM.get,put,ih]
      by_cases hn:n=k
      · subst hn; simp [Ne.symm hk]
      · simp [hn]
theorem AM.get_rep:∀ (m:AM) (g:Nat) (b:Blk),(m.rep g b).get=put m.get g (some b)
  | [],g,b=>by funext n; simp [AM.rep,AM.get,put]
  | (k,b') :: l,g,b=>by
    funext n
    have ih:=congrFun (AM.get_rep l g b) n
    simp only [put] at ih
    by_cases hk:g=k
    · subst hk
      simp only [AM.rep,if_pos,AM.get,put]
      by_cases hn:n=g <;> simp [hn]
    · simp only [AM.rep,if_neg hk,AM.get,put,ih]
      by_cases hn:n=k
      · subst hn; simp [Ne.symm hk]
      · simp [hn]
theorem AM.get_upd:∀ (u:List (Nat×Option Blk)) (m:AM),(m.upd u).get=ups m.get u
  | [],m=>rfl
  | (g,some b) :: l,m=>by simp only [AM.upd,ups,AM.get_upd l,AM.get_rep]
  | (g,none) :: l,m=>by simp only [AM.upd,ups,AM.get_upd l,AM.get_del]

structure AO where
  dst:Option Nat
  op:AOp
  guard:Option (Nat×Bool)
  after:List Nat

abbrev Ef:=AV×List (Nat×Option Blk)×List Nat
abbrev uT:=FuncId→List AV→(Nat→Option Blk)→Nat→Option Ef

def eG (g:Option (Nat×Bool)) (env:List AV):Option Bool :=
  match g with
  | none=>some true
  | some (s,want)=>match env.getD s .und with
    | .bool b=>some (b == want)
    | .tup []=>some false
    | _=>none
def gG (env:List AV) (d:Option Nat) (v:AV):List AV :=
  match d with
  | some d=>env.set d v
  | none=>env

def ex (O:uT) (env:List AV) (m:Nat→Option Blk) (b:Nat):AOp→Option Ef
  | .call f args=>O f (args.map (·.eval env)) m b
  | .callv f args=>match f.eval env with
    | .fn (.func g) first cap=>O g (first ++ args.map (·.eval env) ++ cap) m b
    | _=>none
  | .invoke x tb args=>match x.eval env with
    | .iface t v=>match Be tb t with
      | some g=>O g (v :: args.map (·.eval env)) m b
      | none=>none
    | _=>none
  | x=>(aop m env b x).map fun r=>(r.v,r.ups,r.rd)
def gQ (O:uT) (env:List AV) (m:Nat→Option Blk) (b:Nat) (o:AO):Option Ef :=
  match eG o.guard env with
  | none=>none
  | some false=>some (.tup [],[],[])
  | some true=>ex O env m b o.op

def runD (O:uT):List AO→Nat→List AV→AM→Option (List AV×AM×List Ef)
  | [],_,env,m=>some (env,m,[])
  | o :: rest,b,env,m=>match gQ O env m.get b o with
    | none=>none
    | some e=>match runD O rest (b+16) (gG env o.dst e.1) (m.upd e.2.1) with
      | none=>none
      | some (env',m',tr)=>some (env',m',e :: tr)

section reorder
variable {L V:Type} [DecidableEq L]

def dO (δ:List (L×V)) (ℓ:L):Option V:=δ.foldl (fun acc p=>if p.1=ℓ then some p.2 else acc) none
def val (σ0:L→V) (δ:Nat→List (L×V)) (n:Nat) (S:Nat→Bool) (ℓ:L):V:=(BR n).foldl (fun acc k=>if S k then (dO (δ k) ℓ).getD acc else acc) (σ0 ℓ)

theorem dG {α β:Type} (f g:β→α→β):∀ (l:List α) (x:β),(∀ a,a∈l→∀ y,f y a=g y a)→l.foldl f x=l.foldl g x
  | [],x,_=>rfl
  | a :: l,x,h=>by
    simp only [BM]
    rw [h a (by simp) x]
    exact dG f g l _ fun b hb=>h b (by simp [hb])

theorem dL {σ0:L→V} {δ:Nat→List (L×V)} {n:Nat} {S T:Nat→Bool} {ℓ:L} (h:∀ k,k<n→(dO (δ k) ℓ).isSome=true→S k=T k):val σ0 δ n S ℓ=val σ0 δ n T ℓ:=by
  unfold val
  refine dG _ _ _ _ fun k hk y=>?_
  cases hl:dO (δ k) ℓ with
  | none=>simp
  | some v=>rw [h k (CB.1 hk) (by simp [hl])]

theorem qP {σ0:L→V} {δ:Nat→List (L×V)} {n:Nat} {S:Nat→Bool} {ℓ:L}:val σ0 δ (n+1) S ℓ=if S n then (dO (δ n) ℓ).getD (val σ0 δ n S ℓ) else val σ0 δ n S ℓ:=by
  unfold val
  rw [List.range_succ,FM]
  rfl

theorem gM {σ0:L→V} {δ:Nat→List (L×V)} {S:Nat→Bool} {ℓ:L} {k:Nat}:∀ {n:Nat},k<n→S k=false→(∀ j,k<j→j<n→S j=true→(dO (δ k) ℓ).isSome=true→dO (δ j) ℓ=none) →
    val σ0 δ n (fun j=>S j || decide (j=k)) ℓ=(dO (δ k) ℓ).getD (val σ0 δ n S ℓ)
  | 0,h,_,_=>by omega
  | n + 1, h,hS,hj=>by
    rw [qP,qP]
    by_cases hk:k=n
    · subst hk
      have e:val σ0 δ k (fun j=>S j || decide (j=k)) ℓ=val σ0 δ k S ℓ:=dL fun j hj _=>by
        have:¬ j=k:=by omega
        simp [this]
      simp [hS,e]
    · have ih:=gM (σ0:=σ0) (δ:=δ) (S:=S) (ℓ:=ℓ) (k:=k) (n:=n) (by omega) hS (fun j h1 h2=>hj j h1 (by omega))
      have hn:(S n || decide (n=k))=S n:=by
        have:¬ n=k:=by omega
        simp [this]
      rw [hn]
      cases hs:S n with
      | false=>simpa using ih
      | true =>
        simp only [if_true]
        cases hl:dO (δ k) ℓ with
        | none =>
          rw [hl] at ih
          simp only [Option.getD_none] at ih ⊢
          rw [ih]
        | some v =>
          rw [hl] at ih
          have:=hj n (by omega) (by omega) hs (by simp [hl])
          rw [this]
          simpa using ih
end reorder

def gZ:Opd→List Nat
  | .tmp t=>[t]
  | _=>[]
def mG (l:List Opd):List Nat:=l.flatMap gZ
def wW:Option Opd→List Nat
  | some x=>gZ x
  | none=>[]
def AOp.tmps:AOp→List Nat
  | .mv x | .ext x _ | .not x | .eqn _ x | .conv _ x | .faddr _ x | .fld _ _ _ x | .nilchk x | .mkif _ x | .tassert _ _ x | .len x | .ld _ _ x | .box _ x=>gZ x
  | .pick c a b=>gZ c ++ gZ a ++ gZ b
  | .bin _ x y | .eqb _ x y | .eqs _ _ x y | .iaddr _ x y | .aaddr _ _ x y | .mn x y | .mx x y | .app _ _ _ x y | .cpy _ x y | .st _ x y | .lkp _ _ x y | .mdel x y | .mkslice _ _ _ _ x y=>gZ x ++ gZ y
  | .mupd x y z=>gZ x ++ gZ y ++ gZ z
  | .build _ ps=>ps.flatMap fun p=>gZ p.2.2
  | .mkfn _ a b=>mG a ++ mG b
  | .slc _ x lo hi=>gZ x ++ wW lo ++ wW hi
  | .bslice _ _ _ l=>mG l
  | .alloc _ _ | .mkmap=>[]
  | .call _ l=>mG l
  | .callv f l=>gZ f ++ mG l
  | .invoke x _ l=>gZ x ++ mG l
def AO.tmps (o:AO):List Nat:=o.op.tmps ++ (match o.guard with | some (s,_)=>[s] | none=>[])

theorem aI {x:Opd} {env env':List AV} (h:∀ t,t∈gZ x→env'.getD t .und=env.getD t .und):x.eval env'=x.eval env:=by
  cases x with
  | tmp t=>exact h t (by simp [gZ])
  | _=>rfl
theorem eC {l:List Opd} {env env':List AV} (h:∀ t,t∈mG l→env'.getD t .und=env.getD t .und):l.map (·.eval env')=l.map (·.eval env):=by
  refine BP fun x hx=>aI fun t ht=>h t ?_
  exact List.mem_flatMap.2 ⟨x,hx,ht⟩

theorem gH {m m':Nat→Option Blk} {sz:Nat} {x:AV} {xs:List (List AV)} {rd:List Nat} (h:rowsOf m sz x=some (xs,rd)) (hm:∀ g,g∈rd→m' g=m g):rowsOf m' sz x=some (xs,rd):=by
  cases x <;> simp only [rowsOf] at h ⊢ <;> try exact h
  rename_i g len
  split at h
  · rename_i t sz' rs hg
    split at h
    · simp only [Zn,Prod.mk.injEq] at h
      obtain ⟨rfl,rfl⟩:=h
      rw [hm g (by simp),hg]
      rename_i hq
      simp [hq]
    · cases h
  · cases h

theorem zH {m:Nat→Option Blk} {env env':List AV} {b:Nat} {x:AOp} (h:∀ t,t∈x.tmps→env'.getD t .und=env.getD t .und):aop m env' b x=aop m env b x:=by
  cases x <;> simp only [AOp.tmps,BV] at h <;> simp only [aop]
  case mv x=>rw [aI h]
  case pick c a d=>rw [aI (fun t ht=>h t (.inl (.inl ht))),aI (x:=a) (fun t ht=>h t (.inl (.inr ht))),aI (x:=d) (fun t ht=>h t (.inr ht))]
  case ext x i=>rw [aI h]
  case not x=>rw [aI h]
  case bin op x y=>rw [aI (fun t ht=>h t (.inl ht)),aI (x:=y) (fun t ht=>h t (.inr ht))]
  case eqb n x y=>rw [aI (fun t ht=>h t (.inl ht)),aI (x:=y) (fun t ht=>h t (.inr ht))]
  case eqs n k x y=>rw [aI (fun t ht=>h t (.inl ht)),aI (x:=y) (fun t ht=>h t (.inr ht))]
  case eqn n x=>rw [aI h]
  case conv k x=>rw [aI h]
  case faddr o x=>rw [aI h]
  case fld o n a x=>rw [aI h]
  case iaddr s x y=>rw [aI (fun t ht=>h t (.inl ht)),aI (x:=y) (fun t ht=>h t (.inr ht))]
  case aaddr l s x y=>rw [aI (fun t ht=>h t (.inl ht)),aI (x:=y) (fun t ht=>h t (.inr ht))]
  case nilchk x=>rw [aI h]
  case build z ps =>
    have:(ps.map fun (o,n,x)=>(o,n,x.eval env'))=(ps.map fun (o,n,x)=>(o,n,x.eval env)):=BP fun p hp=>by
      obtain ⟨o,n,x⟩:=p
      simp only [Prod.mk.injEq,true_and]
      exact aI fun t ht=>h t (List.mem_flatMap.2 ⟨_,hp,ht⟩)
    rw [this]
  case mkfn f a d=>rw [eC (fun t ht=>h t (.inl ht)),eC (l:=d) (fun t ht=>h t (.inr ht))]
  case mkif t x=>rw [aI h]
  case tassert t o x=>rw [aI h]
  case slc s x lo hi =>
    have e:∀ q:Option Opd,(∀ t,t∈wW q→env'.getD t .und=env.getD t .und)→q.map (·.eval env')=q.map (·.eval env):=by
      intro q hq
      cases q with
      | none=>rfl
      | some y=>simp only [BK,Zn]; exact aI hq
    rw [aI (fun t ht=>h t (.inl (.inl ht))),e lo (fun t ht=>h t (.inl (.inr ht))),e hi (fun t ht=>h t (.inr ht))]
  case len x=>rw [aI h]
  case mn x y=>rw [aI (fun t ht=>h t (.inl ht)),aI (x:=y) (fun t ht=>h t (.inr ht))]
  case mx x y=>rw [aI (fun t ht=>h t (.inl ht)),aI (x:=y) (fun t ht=>h t (.inr ht))]
  case app t s k x y=>rw [aI (fun t ht=>h t (.inl ht)),aI (x:=y) (fun t ht=>h t (.inr ht))]
  case cpy s x y=>rw [aI (fun t ht=>h t (.inl ht)),aI (x:=y) (fun t ht=>h t (.inr ht))]
  case ld n a x=>rw [aI h]
  case st n x y=>rw [aI (fun t ht=>h t (.inl ht)),aI (x:=y) (fun t ht=>h t (.inr ht))]
  case lkp z o x y=>rw [aI (fun t ht=>h t (.inl ht)),aI (x:=y) (fun t ht=>h t (.inr ht))]
  case mupd x y z=>rw [aI (fun t ht=>h t (.inl (.inl ht))),aI (x:=y) (fun t ht=>h t (.inl (.inr ht))),aI (x:=z) (fun t ht=>h t (.inr ht))]
  case mdel x y=>rw [aI (fun t ht=>h t (.inl ht)),aI (x:=y) (fun t ht=>h t (.inr ht))]
  case box t x=>rw [aI h]
  case bslice t s n l=>rw [eC h]
  case mkslice t s z k x y=>rw [aI (fun t ht=>h t (.inl ht)),aI (x:=y) (fun t ht=>h t (.inr ht))]

theorem zI {m m' : Nat → Option Blk} {env:List AV} {b:Nat} {x:AOp} {r:OR} (h:aop m env b x=some r) (hm:∀ g,g∈r.rd→m' g=m g):aop m' env b x=some r:=by
  have live:∀ {x:AV} {rd:List Nat},dT m x=some rd→(∀ g,g∈rd→m' g=m g)→dT m' x=some rd:=by
    intro x rd h1 h2
    cases x <;> simp only [dT] at h1 ⊢ <;> try exact h1
    split at h1
    · obtain rfl:=Zm h1
      rename_i g _ _ hg
      rw [h2 g (by simp),if_pos hg]
    · cases h1
  cases x <;> simp only [aop] at h ⊢ <;> try exact h
  case faddr o x =>
    simp only [AS,Zl] at h ⊢
    obtain ⟨rd,h1,v,h2,rfl⟩:=h
    exact ⟨rd,live h1 hm,v,h2,rfl⟩
  case aaddr l s x y =>
    simp only [AS,Zl] at h ⊢
    obtain ⟨rd,h1,v,h2,rfl⟩:=h
    exact ⟨rd,live h1 hm,v,h2,rfl⟩
  case nilchk x =>
    simp only [AS,Zl] at h ⊢
    obtain ⟨rd,h1,v,h2,rfl⟩:=h
    exact ⟨rd,live h1 hm,v,h2,rfl⟩
  case iaddr s x y =>
    revert h
    generalize x.eval env=x; generalize y.eval env=y
    intro h
    cases x <;> cases y <;> simp only [cE] at h ⊢ <;> try exact h
    split at h
    · rename_i hg
      split at h
      · obtain rfl:=Zm h
        rw [hm _ (by simp),hg]
        simp [*]
      · cases h
    · cases h
  case slc s x lo hi =>
    revert h
    generalize x.eval env=x; generalize lo.map (·.eval env)=lo; generalize hi.map (·.eval env)=hi
    intro h
    cases x <;> try exact h
    cases lo with
    | some _=>simp [gO] at h
    | none => cases hi with
      | none=>simp [gO] at h
      | some y => cases y <;> simp only [gO,reduceCtorEq] at h ⊢
                  split at h
                  · rename_i hg
                    split at h
                    · rename_i hq
                      obtain ⟨rfl,q1,q2,rfl⟩:=hq
                      obtain rfl:=Zm h
                      rw [hm _ (by simp),hg]
                      simp [q1,q2]
                    · cases h
                  · cases h
  case eqn dU x =>
    revert h
    generalize x.eval env=x
    intro h
    cases x with
    | slm g l =>
      simp only [gU] at h ⊢
      split at h
      · rename_i hg
        obtain rfl:=Zm h
        rw [hm _ (by simp),hg]
      · cases h
    | slv s l=>cases l <;> exact h
    | _=>exact h
  case len x =>
    revert h
    generalize x.eval env=x
    intro h
    cases x <;> simp only [dP] at h ⊢ <;> try exact h
    split at h
    · rename_i hg
      split at h
      · obtain rfl:=Zm h
        rw [hm _ (by simp),hg]
        simp [*]
      · cases h
    · cases h
  case app t s k x y =>
    revert h
    generalize x.eval env=x; generalize y.eval env=y
    intro h
    simp only [doApp] at h ⊢
    split at h
    · cases h
    · rename_i xs rd hr
      split at h
      · split at h
        · obtain rfl:=Zm h
          rw [gH hr hm]
          simp [*]
        · cases h
      · split at h
        · rename_i hg
          split at h
          · obtain rfl:=Zm h
            rw [gH hr (fun g hg=>hm g (by simp [hg])),hm _ (by simp),hg]
            simp [*]
          · cases h
        · cases h
      · cases h
  case cpy s x y =>
    revert h
    generalize x.eval env=x; generalize y.eval env=y
    intro h
    simp only [jU] at h ⊢
    split at h
    · cases h
    · rename_i xs rd hr
      split at h
      · split at h
        · rename_i hg
          split at h
          · obtain rfl:=Zm h
            rw [gH hr (fun g hg=>hm g (by simp [hg])),hm _ (by simp),hg]
            simp [*]
          · cases h
        · cases h
      · cases h
  case ld n a x =>
    revert h
    generalize x.eval env=x
    intro h
    cases x <;> simp only [aZ] at h ⊢ <;> try exact h
    split at h
    · rename_i hg
      split at h
      · rename_i r0 hr
        rw [Zl] at h
        obtain ⟨v,h1,rfl⟩:=h
        rw [hm _ (by simp),hg]
        simp only [hr,h1,BK]
      · cases h
    · cases h
  case st n x y =>
    revert h
    generalize x.eval env=x; generalize y.eval env=y
    intro h
    cases x <;> simp only [bJ] at h ⊢ <;> try exact h
    split at h
    · rename_i hg
      split at h
      · rename_i r0 hr
        split at h
        · obtain rfl:=Zm h
          rw [hm _ (by simp),hg]
          simp only [hr]
          rename_i hq
          rw [if_pos hq]
        · cases h
      · cases h
    · cases h
  case lkp z o x y =>
    revert h
    generalize x.eval env=x; generalize y.eval env=y
    intro h
    cases x <;> simp only [gV] at h ⊢ <;> try exact h
    split at h
    · rename_i hg
      split at h
      · rename_i hi
        rw [Zl] at h
        obtain ⟨v,h1,rfl⟩:=h
        rw [hm _ (by simp),hg]
        simp only [hi,if_true,h1,BK]
      · cases h
    · cases h
  case mupd x y z =>
    revert h
    generalize x.eval env=x; generalize y.eval env=y; generalize z.eval env=z
    intro h
    cases x <;> simp only [fL] at h ⊢ <;> try exact h
    split at h
    · rename_i hg
      split at h
      · rename_i hi
        rw [Zl] at h
        obtain ⟨v,h1,rfl⟩:=h
        rw [hm _ (by simp),hg]
        simp only [hi,if_true,h1,BK]
      · cases h
    · cases h
  case mdel x y =>
    revert h
    generalize x.eval env=x; generalize y.eval env=y
    intro h
    cases x <;> simp only [kK] at h ⊢ <;> try exact h
    split at h
    · rename_i hg
      split at h
      · rename_i hi
        rw [Zl] at h
        obtain ⟨v,h1,rfl⟩:=h
        rw [hm _ (by simp),hg]
        simp only [hi,if_true,h1,BK]
      · cases h
    · cases h

def nY (O:uT):Prop:=∀ f args (m m':Nat→Option Blk) b e,O f args m b=some e→(∀ g,g∈e.2.2→m' g=m g)→O f args m' b=some e

theorem qH {O:uT} (hO:nY O) {env env':List AV} {m m':Nat→Option Blk} {b:Nat} {o:AO} {e:Ef} (h:gQ O env m b o=some e) (he:∀ t,t∈o.tmps→env'.getD t .und=env.getD t .und)
    (hm:∀ g,g∈e.2.2→m' g=m g):gQ O env' m' b o=some e:=by
  have hg:eG o.guard env'=eG o.guard env:=by
    unfold eG
    cases hgd:o.guard with
    | none=>rfl
    | some p=>simp only; rw [he p.1 (by simp [AO.tmps,hgd])]
  unfold gQ at h ⊢
  rw [hg]
  split at h
  · cases h
  · exact h
  · have he':∀ t,t∈o.op.tmps→env'.getD t .und=env.getD t .und:=fun t ht=>he t (by simp [AO.tmps,ht])
    revert h he'
    generalize o.op=x
    intro h he'
    unfold ex at h ⊢
    split at h
    · simp only [AOp.tmps] at he'
      rw [eC he']
      exact hO _ _ _ _ _ _ h hm
    · simp only [AOp.tmps,BV] at he'
      rw [aI (fun t ht=>he' t (.inl ht)),eC (fun t ht=>he' t (.inr ht))]
      split at h
      · exact hO _ _ _ _ _ _ h hm
      · cases h
    · simp only [AOp.tmps,BV] at he'
      rw [aI (fun t ht=>he' t (.inl ht)),eC (fun t ht=>he' t (.inr ht))]
      split at h
      · split at h
        · exact hO _ _ _ _ _ _ h hm
        · cases h
      · cases h
    · rename_i h1 h2 h3
      rw [Zl] at h
      obtain ⟨r,hr,rfl⟩:=h
      have:=zI (m':=m') hr hm
      rw [← zH he'] at this
      rw [this]; rfl


def ARel (c:Ctx) (xs:List AV) (vs:Array Value):Prop:=xs.length=vs.size∧∀ (i:Nat) (x:AV),xs[i]?=some x→VR c x (vs.getD i bX)
theorem ARel.mono {c c':Ctx} (h:St c c') {xs:List AV} {vs:Array Value} (hx:ARel c xs vs):ARel c' xs vs:=⟨hx.1,fun i x hi=>(hx.2 i x hi).mono h⟩
theorem ARel.append {c:Ctx} {xs ys:List AV} {vs us:Array Value} (h1:ARel c xs vs) (h2:ARel c ys us):ARel c (xs ++ ys) (vs ++ us):=by
  refine ⟨by simp [h1.1,h2.1],fun i x hi=>?_⟩
  by_cases hl:i<xs.length
  · rw [AF hl] at hi
    have:=h1.2 i x hi
    have hv:i<vs.size:=by rw [← h1.1]; exact hl
    simpa [Zp,DI,hv] using this
  · rw [List.getElem?_append_right (by omega)] at hi
    have:=h2.2 _ x hi
    have hv:¬ i<vs.size:=by rw [← h1.1]; exact hl
    rw [h1.1] at this
    simpa [Zp,DI,hv] using this

def eU (P : Program) (f : FuncId) : Prop := ∃ fn, P.funcs[f]? = some fn ∧ (fn.name == "runtime.NumGoroutine") = false ∧ fn.body.isNone = false

def MC (P:Program) (f:FuncId) (args:List AV) (e:Ef) (m:Nat→Option Blk) (b:Nat):Prop :=
  eU P f∧∀ c:Ctx,Gd c→c.m=m→(∀ n,b≤n→n<b+16→¬ c.U n)→∀ vs,ARel c args vs →
    Calls P f vs c.w fun en w'=>∃ c' z,en=.returned z∧c'.w=w'∧Gd c'∧St c c'∧c'.m=ups m e.2.1∧(∀ n,c'.U n→(b≤n∧n<b+16)∨c.U n)∧VR c' e.1 z
def lR (P:Program) (O:uT):Prop:=∀ f args m b e,O f args m b=some e→MC P f args e m b

section
variable {P:Program} {O:uT}

def nZ (o:Oper):List Nat:=(o.after.toList.filter (Region.binds .any)).map (·.on)
def mS (ops:Array Oper):Option (Nat×Bool)→Option (Option (Nat×Bool))
  | none=>some none
  | some (j,want)=>match (ops[j]?).bind (·.dst) with
    | some d=>some (some (d,want))
    | none=>none
def Dh (P:Program) (ops:Array Oper) (o:Oper):Option AO :=
  match Di P o,mS ops o.guard with
  | some x,some g=>some { dst:=o.dst,op:=x,guard:=g,after:=nZ o }
  | _,_=>none

theorem rV {ops:Array Oper} {o:Oper} {x:AO} (h:Dh P ops o=some x):Di P o=some x.op∧mS ops o.guard=some x.guard∧x.dst=o.dst∧x.after=nZ o:=by
  unfold Dh at h
  split at h
  · rename_i h1 h2
    obtain rfl:=Zm h
    exact ⟨h1,h2,rfl,rfl⟩
  · cases h

theorem nV {c:Ctx} {ops:Array Oper} {o:Oper} {g:Option (Nat×Bool)} {env:List AV} {a:Act} {t:Bool} (hg:mS ops o.guard=some g) (he:ER c env a.tmps) (h:eG g env=some t):Region.wanted o (yielded ops a.tmps)=t:=by
  unfold Region.wanted
  cases hog:o.guard with
  | none =>
    rw [hog] at hg
    simp only [mS,Zn] at hg
    subst hg
    simp only [eG,Zn] at h
    exact h
  | some p =>
    obtain ⟨j,want⟩:=p
    rw [hog] at hg
    simp only [mS] at hg
    split at hg
    · rename_i d hd
      obtain rfl:=Zm hg
      simp only [eG] at h
      have hr:=he.get d
      simp only [yielded,hd,Option.bind_some]
      by_cases hlt:d<a.tmps.size
      · have e:a.tmps[d]?=some (a.tmps.getD d bX):=by simp [Zp,hlt]
        rw [e]
        split at h
        · rename_i b hb
          rw [hb] at hr
          generalize a.tmps.getD d bX=v at hr
          cases hr
          simp only [Zn] at h
          subst h
          simp
        · rename_i hb
          rw [hb] at hr
          generalize a.tmps.getD d bX=v at hr
          cases hr
          simp only [Zn] at h
          subst h
          simp
        · cases h
      · have:env.getD d .und=.und:=by rw [Zr,BI (by rw [he.1]; exact Nat.le_of_not_lt hlt)]; rfl
        rw [this] at h
        cases h
    · cases hg

theorem pV {c:Ctx} {env:List AV} {a:Act} {d:Option Nat} {x:AV} {v:Value} (he:ER c env a.tmps) (hx:VR c x v):ER c (gG env d x) (a.put d v).tmps:=by
  cases d with
  | none=>exact he
  | some d=>exact he.set d hx

theorem gJ {f:FuncId} (h:eU P f) (args:Array Value) (w:World):(callFunc f args).run P w=.ok (.enter f args) w:=by
  obtain ⟨fn,h1,h2,h3⟩:=h
  simp only [callFunc,Sem.run_bind,run_program,Result.andThen_ok,h1,h2,h3,AK,if_false,Sem.run_pure]

theorem lV {c:Ctx} {env:List AV} {a:Act} {xs:List Operand} {ys:List Opd} (h:dM xs=some ys) (he:ER c env a.tmps):ARel c (ys.map (·.eval env)) (xs.map a.eval).toArray:=by
  obtain ⟨h1,h2⟩:=eT he h
  refine ⟨by simp [h1],fun i x hi=>?_⟩
  have:=h2 i x hi
  simpa [Zp,Zr] using this

def target (env:List AV):AOp→Option (FuncId×List AV)
  | .call f args=>some (f,args.map (·.eval env))
  | .callv x args=>match x.eval env with
    | .fn (.func g) first cap=>some (g,first ++ args.map (·.eval env) ++ cap)
    | _=>none
  | .invoke x tb args=>match x.eval env with
    | .iface t v=>match Be tb t with
      | some g=>some (g,v :: args.map (·.eval env))
      | none=>none
    | _=>none
  | _=>none
theorem mK {f:FuncId} {t:Nat} {name:String} (h:eU P f) (hm:pR P name t=some (t,f)) (v:Value) (args:Array Value) (w:World) :
    (callMethod (.iface t v) name args).run P w=.ok (.enter f (#[v] ++ args)) w:=by
  unfold pR at hm
  split at hm
  · cases hm
  · rename_i i hi
    split at hm
    · cases hm
    · rename_i m hf
      split at hm
      · rename_i pt hp hfn hu
        simp only [Zn,Prod.mk.injEq,true_and] at hm
        subst hm
        have hpos:∃ k,P.types.size+Made.depth=k+1:=by
          exact ⟨P.types.size+99,rfl⟩
        obtain ⟨k,hk⟩:=hpos
        simp only [callMethod,Sem.run_bind,run_program,Result.andThen_ok,hk,method,typeInfo,hi,hf,hp,follow,hfn,receiverAt,run_underlying hu,Place.get,Sem.run_pure]
        exact gJ h _ w
      · cases hm

theorem uO {o : Oper} {X:AOp} {env:List AV} {a:Act} {c:Ctx} {f:FuncId} {as:List AV} {K:Act→World→Prop} {Q:Exit→Act→World→Prop} (hx:Di P o=some X) (ht:target env X=some (f,as)) (he:ER c env a.tmps) (hf:eU P f)
    (h : ∀ vs,ARel c as vs→Calls P f vs c.w fun
      | .returned v,w''=>K (a.put o.dst v) w''
      | .panicked chain,w''=>Q (.panic chain) a w''
      | .outgrown,_=>LetsOut Q):o.wp P a c.w K Q:=by
  -- the operation is a call
  have hcall:∃ cl,o.op=.call cl∧qW P cl=some X:=by
    unfold Di at hx
    split at hx
    all_goals first
      | (rename_i cl hop; exact ⟨cl,hop,hx⟩)
      | (exfalso; (try simp only [Ax] at hx); (repeat' split at hx) <;> (try simp only [Zl,Zn,reduceCtorEq] at hx) <;> first | exact hx | (subst hx; simp [target] at ht; done) | (obtain ⟨_,_,rfl⟩:=hx; simp [target] at ht; done))
  obtain ⟨⟨callee,args,tys⟩,hop,hx⟩:=hcall
  unfold Oper.wp
  unfold qW at hx
  split at hx
  · rename_i g hcal
    simp only at hcal
    subst hcal
    rw [Zl] at hx
    obtain ⟨ys,hy,rfl⟩:=hx
    simp only [target,Zn,Prod.mk.injEq] at ht
    obtain ⟨rfl,rfl⟩:=ht
    have hrun:(execOp a.eval o).run P c.w=.ok (.enter g (args.toList.map a.eval).toArray) c.w:=by
      simp only [execOp,hop,resolve,Deferred.ofValue,Act.eval,Sem.run_bind,Sem.run_pure,Result.andThen_ok,invoke]
      have e:(#[] ++ GM a.eval args ++ #[]:Array Value)=(args.toList.map a.eval).toArray:=by apply DN; simp
      rw [e]
      exact gJ hf _ _
    rw [hrun,Oper.upon_enter]
    exact h _ (lV hy he)
  · rename_i x hnf hcal
    simp only at hcal
    subst hcal
    split at hx
    · rename_i y ys h1 h2
      obtain rfl:=Zm hx
      have r1:=aK h1 he
      simp only [target] at ht
      split at ht
      · rename_i g first cap hv
        simp only [Zn,Prod.mk.injEq] at ht
        obtain ⟨rfl,rfl⟩:=ht
        rw [hv] at r1
        generalize hq:a.eval x=q at r1
        cases r1 with
        | fn f fs cs vs us k1 k2 k3 k4 =>
          have hrun:(execOp a.eval o).run P c.w=.ok (.enter g (vs ++ (args.toList.map a.eval).toArray ++ us)) c.w:=by
            simp only [execOp,hop,resolve,hq,Deferred.ofValue,Sem.run_bind,Sem.run_pure,Result.andThen_ok,invoke]
            have e:(vs ++ GM a.eval args ++ us:Array Value)=vs ++ (args.toList.map a.eval).toArray ++ us:=by congr 2; apply DN; simp
            rw [e]
            exact gJ hf _ _
          rw [hrun,Oper.upon_enter]
          exact h _ (ARel.append (ARel.append ⟨k1,k3⟩ (lV h2 he)) ⟨k2,k4⟩)
      · cases ht
    · cases hx
  · rename_i x name hcal
    simp only at hcal
    subst hcal
    split at hx
    · rename_i y ys h1 h2
      obtain rfl:=Zm hx
      have r1:=aK h1 he
      simp only [target] at ht
      split at ht
      · rename_i t v hv
        rw [hv] at r1
        generalize hq:a.eval x=q at r1
        cases r1 with
        | iface t v u k1 =>
          split at ht
          · rename_i g hg
            simp only [Zn,Prod.mk.injEq] at ht
            obtain ⟨rfl,rfl⟩:=ht
            have hrun:(execOp a.eval o).run P c.w=.ok (.enter g (#[u] ++ (args.toList.map a.eval).toArray)) c.w:=by
              have e:GM a.eval args=(args.toList.map a.eval).toArray:=by apply DN; simp
              have e2:∀ l:List Value,(#[Value.iface t u] ++ l.toArray).extract 1 (#[Value.iface t u] ++ l.toArray).size=l.toArray:=fun l=>by apply DN; simp
              have e3:∀ l:List Value,(#[Value.iface t u] ++ l.toArray)[0]?=some (Value.iface t u):=fun l=>by simp
              simp only [execOp,hop,resolve,hq,Deferred.ofValue,Sem.run_bind,Sem.run_pure,Result.andThen_ok,invoke,e,e2,e3]
              exact mK hf (Ai hg) u _ c.w
            rw [hrun,Oper.upon_enter]
            refine h _ (ARel.append (xs:=[v]) (vs:=#[u]) ⟨rfl,fun i z hi=>?_⟩ (lV h2 he))
            cases i with
            | zero=>simp at hi; subst hi; exact k1
            | succ i=>simp at hi
          · cases ht
      · cases ht
    · cases hx
  all_goals (exfalso; revert ht; (repeat' split at hx) <;> simp only [Zl,Zn,reduceCtorEq] at hx <;> first | exact hx.elim | (subst hx; simp [target]) | (obtain ⟨_,_,rfl⟩:=hx; simp [target]))

theorem tU {env:List AV} {m:Nat→Option Blk} {b:Nat} {x:AOp} {e:Ef} (h:ex O env m b x=some e):(∃ f as,target env x=some (f,as)∧O f as m b=some e)∨(target env x=none∧∃ r,aop m env b x=some r∧e=(r.v,r.ups,r.rd)):=by
  unfold ex at h
  split at h
  · exact .inl ⟨_,_,rfl,h⟩
  · split at h
    · rename_i g first cap hv
      exact .inl ⟨g,_,by simp [target,hv],h⟩
    · cases h
  · split at h
    · rename_i t v hv
      split at h
      · rename_i g hg
        exact .inl ⟨g,_,by simp [target,hv,hg],h⟩
      · cases h
    · cases h
  · rename_i h1 h2 h3
    rw [Zl] at h
    obtain ⟨r,hr,rfl⟩:=h
    refine .inr ⟨?_,r,hr,rfl⟩
    cases x <;> first | rfl | exact absurd rfl (h1 _ _) | exact absurd rfl (h2 _ _) | exact absurd rfl (h3 _ _ _)

theorem tB {ops:Array Oper} {o:Oper} {x:AO} {c:Ctx} {env:List AV} {a:Act} {m:Nat→Option Blk} {b:Nat} {e:Ef} {K:Act→World→Prop} {Q:Exit→Act→World→Prop} (hO:lR P O) (hx:Dh P ops o=some x)
    (hc:Gd c) (hm:c.m=m) (he:ER c env a.tmps) (hfr:∀ n,b≤n→n<b+16→¬ c.U n) (h:gQ O env m b x=some e)
    (hK:∀ c' v,Gd c'→St c c'→c'.m=ups m e.2.1→(∀ n,c'.U n→(b≤n∧n<b+16)∨c.U n)→VR c' e.1 v→K (a.put x.dst v) c'.w) :
    if Region.wanted o (yielded ops a.tmps) then o.wp P a c.w K Q∨(o.asks P a c.w∧LetsOut Q) else K (a.put o.dst undef) c.w:=by
  obtain ⟨h1,h2,h3,h4⟩:=rV hx
  unfold gQ at h
  split at h
  · cases h
  · rename_i hg
    obtain rfl:=Zm h
    rw [if_neg (by rw [nV h2 he hg]; simp),← h3]
    exact hK c undef hc (St.refl c) hm (fun n hn=>.inr hn) (.tup [] #[] rfl (by simp))
  · rename_i hg
    rw [if_pos (nV h2 he hg)]
    left
    rcases tU h with ⟨f,as,ht,hof⟩ | ⟨ht,r,hr,rfl⟩
    · obtain ⟨hcal,hcs⟩:=hO _ _ _ _ _ hof
      refine uO h1 ht he hcal fun vs hvs=>(hcs c hc hm hfr vs hvs).mono ?_
      rintro en w' ⟨c',z,rfl,rfl,k1,k2,k3,k4,k5⟩
      have:=hK c' z k1 k2 k3 k4 k5
      rwa [h3] at this
    · subst hm
      refine Cl hc he (hfr b (AP _) (by omega)) h1 hr fun c' v k1 k2 k3 k4 k5=>?_
      have:=hK c' v k1 k2 k3 (fun n hn=>by
        rcases k4 n hn with e | e
        · exact .inl (by omega)
        · exact .inr e) k5
      rwa [h3] at this
end


def rW (P:Program) (ops:Array Oper):List Oper→Option (List AO)
  | []=>some []
  | o :: l=>match Dh P ops o,rW P ops l with
    | some x,some xs=>some (x :: xs)
    | _,_=>none

def lE (acc:List Nat) (o:AO):Nat:=o.after.foldl (fun s j=>s ||| (2 ^ j ||| acc.getD j 0)) 0
def eL:List AO→List Nat→List Nat
  | [],acc=>acc
  | o :: l,acc=>eL l (acc ++ [lE acc o])
def fN:AOp→Bool
  | .mv _ | .pick _ _ _ | .ext _ _ | .not _ | .bin _ _ _ | .eqb _ _ _ | .eqs _ _ _ _ | .conv _ _ | .fld _ _ _ _ | .build _ _ | .mkfn _ _ _ | .mkif _ _ | .tassert _ _ _ | .mn _ _ | .mx _ _=>true
  | _=>false
def kD (x y:AO):Bool :=
  (match x.dst with | some d=>!(y.tmps.contains d) && decide (y.dst≠some d) | none=>true) && (match y.dst with | some d=>!(x.tmps.contains d) | none=>true)
def eZ (xs:List AO) (un:List (Nat×Nat)):Bool :=
  let ms:=eL xs []
  (xs.zipIdx.all fun p=>p.1.after.all fun j=>decide (j<p.2)) &&
  (BR xs.length).all fun j=>(BR j).all fun i=>match xs[i]?,xs[j]? with
    | some x,some y=>(ms.getD j 0).testBit i || (kD x y && (fN x.op || fN y.op || un.contains (i,j)))
    | _,_=>false
def apartN (e f:Ef):Bool:=(e.2.1.all fun p=>!(f.2.2.contains p.1) && f.2.1.all fun q=>decide (q.1≠p.1)) && (f.2.1.all fun p=>!(e.2.2.contains p.1))
def dynOk (un:List (Nat×Nat)) (tr:List Ef):Bool:=un.all fun p=>match tr[p.1]?,tr[p.2]? with
  | some e,some f=>apartN e f
  | _,_=>false
def sF (n:Nat) (xs:List AO):Bool:=xs.all fun o=>match o.dst with | some d=>decide (d<n) | none=>true

section
variable {P:Program} {O:uT}

theorem oV {ops:Array Oper}:∀ {l:List Oper} {xs:List AO},rW P ops l=some xs→l.length=xs.length∧∀ (i:Nat) (o:Oper),l[i]?=some o→∃ x,xs[i]?=some x∧Dh P ops o=some x
  | [],xs,h=>by simp only [rW,Zn] at h; subst h; simp
  | o :: l,xs,h=>by
    simp only [rW] at h
    split at h
    · rename_i x xs' h1 h2
      obtain rfl:=Zm h
      obtain ⟨k1,k2⟩:=oV h2
      refine ⟨by simp [k1],fun i o' hi=>?_⟩
      cases i with
      | zero=>simp at hi; subst hi; exact ⟨x,rfl,h1⟩
      | succ i=>simpa using k2 i o' (by simpa using hi)
    · cases h

theorem nM {env:List AV} {m:Nat→Option Blk} {b:Nat} {o:AO} {e:Ef} (hp:fN o.op=true) (h:gQ O env m b o=some e):e.2.1=[]∧e.2.2=[]:=by
  unfold gQ at h
  split at h
  · cases h
  · obtain rfl:=Zm h; exact ⟨rfl,rfl⟩
  · revert hp h
    generalize o.op=x
    intro hp h
    cases x <;> simp only [fN,AK] at hp <;> simp only [ex,aop,Option.map_map,Zl,BK,Zn] at h
    case pick c a d =>
      obtain ⟨r,h1,rfl⟩:=h
      split at h1
      · obtain rfl:=Zm h1; exact ⟨rfl,rfl⟩
      · cases h1
    all_goals first
      | (subst h; exact ⟨rfl,rfl⟩)
      | (obtain ⟨v,_,rfl⟩:=h; exact ⟨rfl,rfl⟩)

def tM (p:List AV×AM) (q:AO×Ef):List AV×AM:=(gG p.1 q.1.dst q.2.1,p.2.upd q.2.2.1)
def qG (env:List AV) (m:AM) (xs:List AO) (tr:List Ef) (k:Nat):List AV×AM:=((xs.zip tr).take k).foldl tM (env,m)

theorem hD (env:List AV) (d:Option Nat) (v:AV):(gG env d v).length=env.length:=by cases d <;> simp [gG]

theorem mJ : ∀ {xs:List AO} {b:Nat} {env env':List AV} {m m':AM} {tr:List Ef},runD O xs b env m=some (env',m',tr) →
    tr.length=xs.length∧(env',m')=qG env m xs tr xs.length∧∀ (k:Nat) (x:AO),xs[k]?=some x→∃ e,tr[k]?=some e∧gQ O (qG env m xs tr k).1 (qG env m xs tr k).2.get (b+16 * k) x=some e
  | [],b,env,env',m,m',tr,h=>by
    simp only [runD,Zn,Prod.mk.injEq] at h
    obtain ⟨rfl,rfl,rfl⟩:=h
    exact ⟨rfl,rfl,by simp⟩
  | o :: xs,b,env,env',m,m',tr,h=>by
    simp only [runD] at h
    split at h
    · cases h
    · rename_i e he
      split at h
      · cases h
      · rename_i env1 m1 tr1 hr
        simp only [Zn,Prod.mk.injEq] at h
        obtain ⟨rfl,rfl,rfl⟩:=h
        obtain ⟨k1,k2,k3⟩:=mJ hr
        have hst:∀ k,qG env m (o :: xs) (e :: tr1) (k+1)=qG (gG env o.dst e.1) (m.upd e.2.1) xs tr1 k:=fun k=>by simp [qG,tM]
        refine ⟨by simp [k1],by rw [AQ,hst]; exact k2,fun k x hk=>?_⟩
        cases k with
        | zero =>
          simp at hk; subst hk
          exact ⟨e,rfl,by simpa [qG] using he⟩
        | succ k =>
          obtain ⟨f,f1,f2⟩:=k3 k x (by simpa using hk)
          refine ⟨f,by simpa using f1,?_⟩
          rw [hst,show b+16 * (k+1)=b+16+16 * k from by omega]
          exact f2

theorem fZ : ∀ (u : List (Nat×Option Blk)) (m:Nat→Option Blk) (g:Nat),ups m u g=(dO u g).getD (m g):=by
  intro u
  -- from the front
  have gen : ∀ (u : List (Nat×Option Blk)) (m:Nat→Option Blk) (g:Nat) (acc:Option (Option Blk)),acc.getD (m g)=m g∨True→ups m u g=(u.foldl (fun acc p=>if p.1=g then some p.2 else acc) none).getD (m g):=by
    intro u
    induction u with
    | nil=>intro m g acc _; rfl
    | cons p u ih =>
      intro m g acc _
      obtain ⟨k,b⟩:=p
      simp only [ups,BM]
      rw [ih (put m k b) g none (.inr trivial)]
      by_cases hk:k=g
      · subst hk
        simp only [if_pos,wY]
        -- what stands behind an update of the same place
        have : ∀ (l:List (Nat×Option Blk)) (a:Option Blk),(l.foldl (fun acc p=>if p.1=k then some p.2 else acc) none).getD a=(l.foldl (fun acc p=>if p.1=k then some p.2 else acc) (some a)).getD (m k):=by
          intro l
          induction l with
          | nil=>intro a; rfl
          | cons q l ihl =>
            intro a
            simp only [BM]
            by_cases hq:q.1=k
            · simp only [if_pos hq]
              have gen2:∀ (l:List (Nat×Option Blk)) (x y z:Option Blk),(l.foldl (fun acc p=>if p.1=k then some p.2 else acc) (some x)).getD y=(l.foldl (fun acc p=>if p.1=k then some p.2 else acc) (some x)).getD z:=by
                intro l
                induction l with
                | nil=>intro x y z; rfl
                | cons r l ihr =>
                  intro x y z
                  simp only [BM]
                  split
                  · exact ihr _ y z
                  · exact ihr _ y z
              exact gen2 l q.2 a (m k)
            · simp only [if_neg hq]; exact ihl a
        exact this u b
      · simp only [if_neg hk,uJ _ _ (Ne.symm hk)]
  intro m g
  exact gen u m g none (.inr trivial)

def dS (xs:List AO) (tr:List Ef) (k:Nat):List (Nat×AV):=match xs[k]?,tr[k]? with
  | some x,some e=>match x.dst with
    | some d=>[(d,e.1)]
    | none=>[]
  | _,_=>[]
def dN (tr:List Ef) (k:Nat):List (Nat×Option Blk):=match tr[k]? with
  | some e=>e.2.1
  | none=>[]

theorem mX {xs:List AO} {tr:List Ef} {k:Nat} {x:AO} {e:Ef} (hx:xs[k]?=some x) (he:tr[k]?=some e):(xs.zip tr).take (k+1)=(xs.zip tr).take k ++ [(x,e)]:=by
  have:(xs.zip tr)[k]?=some (x,e):=by rw [List.getElem?_zip_eq_some]; exact ⟨hx,he⟩
  have hl:k<(xs.zip tr).length:=(Zw.1 this).1
  rw [List.take_succ_eq_append_getElem hl]
  congr 2
  exact (Zw.1 this).2

theorem mB {α β:Type}:∀ (l:List α) (v:β),l.foldl (fun acc _=>acc) v=v
  | [],_=>rfl
  | _ :: l,v=>mB l v

theorem tA {env:List AV} {m:AM} {xs:List AO} {tr:List Ef} (hl:tr.length=xs.length) (hd:sF env.length xs=true):∀ k,k≤xs.length →
    (qG env m xs tr k).1.length=env.length∧(∀ t,(qG env m xs tr k).1.getD t .und=val (fun t=>env.getD t .und) (dS xs tr) xs.length (fun j=>decide (j<k)) t) ∧
    ∀ g,(qG env m xs tr k).2.get g=val m.get (dN tr) xs.length (fun j=>decide (j<k)) g
  | 0, _ => by
    refine ⟨rfl,fun t=>?_,fun g=>?_⟩
    · have:val (fun t=>env.getD t .und) (dS xs tr) xs.length (fun j=>decide (j<0)) t=env.getD t .und:=by
        unfold val
        rw [dG _ (fun acc _=>acc) _ _ (fun a _ y=>by simp)]
        exact mB _ _
      rw [this]; rfl
    · have:val m.get (dN tr) xs.length (fun j=>decide (j<0)) g=m.get g:=by
        unfold val
        rw [dG _ (fun acc _=>acc) _ _ (fun a _ y=>by simp)]
        exact mB _ _
      rw [this]; rfl
  | k + 1, hk=>by
    obtain ⟨h1,h2,h3⟩:=tA (m:=m) hl hd k (by omega)
    have hkl:k<xs.length:=by omega
    have hx:xs[k]?=some xs[k]:=Zz hkl
    have he:tr[k]?=some tr[k]:=Zz (by omega)
    generalize xs[k]=x at hx
    generalize tr[k]'(by omega)=e at he
    have hst:qG env m xs tr (k+1)=tM (qG env m xs tr k) (x,e):=by
      unfold qG
      rw [mX hx he,FM]
      rfl
    have hS:∀ {V:Type} (σ:Nat→V) (δ:Nat→List (Nat×V)) (ℓ:Nat),val σ δ xs.length (fun j=>decide (j<k+1)) ℓ=(dO (δ k) ℓ).getD (val σ δ xs.length (fun j=>decide (j<k)) ℓ):=by
      intro V σ δ ℓ
      rw [← gM (S:=fun j=>decide (j<k)) hkl (by simp) (fun j h1 h2 h3=>by simp at h3; omega)]
      refine dL fun j _ _=>?_
      by_cases h1:j<k <;> by_cases h2:j=k <;> simp [h1,h2] <;> omega
    rw [hst]
    refine ⟨by simp only [tM,hD,h1],fun t=>?_,fun g=>?_⟩
    · rw [hS,← h2 t]
      have hdS:dS xs tr k=match x.dst with | some d=>[(d,e.1)] | none=>[]:=by simp only [dS,hx,he]
      rw [hdS]
      simp only [tM]
      cases hxd:x.dst with
      | none=>simp [gG,dO]
      | some d =>
        have hdl:d<env.length:=by
          have:=AA.1 hd x (AL hx)
          rw [hxd] at this
          simpa using this
        simp only [gG,dO,BM,GI]
        rw [Zr,CO]
        by_cases hdt:d=t
        · subst hdt; simp [h1,hdl]
        · simp [hdt]
    · rw [hS,← h3 g]
      have hdN:dN tr k=e.2.1:=by simp only [dN,he]
      rw [hdN]
      simp only [tM,AM.get_upd,fZ]

theorem uA (acc:List Nat) (o:AO) (i:Nat):(lE acc o).testBit i=true↔∃ j,j∈o.after∧(i=j∨(acc.getD j 0).testBit i=true):=by
  unfold lE
  have gen : ∀ (l:List Nat) (s:Nat),(l.foldl (fun s j=>s ||| (2 ^ j ||| acc.getD j 0)) s).testBit i=true↔s.testBit i=true∨∃ j,j∈l∧(i=j∨(acc.getD j 0).testBit i=true):=by
    intro l
    induction l with
    | nil=>intro s; simp
    | cons j l ih =>
      intro s
      simp only [BM]
      rw [ih]
      simp only [Nat.testBit_or,AZ,Nat.testBit_two_pow,decide_eq_true_eq,List.mem_cons]
      constructor
      · rintro ((h | h | h) | ⟨q,h1,h2⟩)
        · exact .inl h
        · exact .inr ⟨j,.inl rfl,.inl h.symm⟩
        · exact .inr ⟨j,.inl rfl,.inr h⟩
        · exact .inr ⟨q,.inr h1,h2⟩
      · rintro (h | ⟨q,rfl | h1,h2⟩)
        · exact .inl (.inl h)
        · rcases h2 with h2 | h2
          · exact .inl (.inr (.inl h2.symm))
          · exact .inl (.inr (.inr h2))
        · exact .inr ⟨q,h1,h2⟩
  rw [gen]
  simp

theorem pP : ∀ (xs:List AO) (acc:List Nat),(eL xs acc).length=acc.length+xs.length∧(∀ i,i<acc.length→(eL xs acc)[i]?=acc[i]?) ∧
    ∀ (k:Nat) (x:AO),xs[k]?=some x→(eL xs acc).getD (acc.length+k) 0=lE ((eL xs acc).take (acc.length+k)) x
  | [],acc=>by simp [eL]
  | o :: l,acc=>by
    obtain ⟨h1,h2,h3⟩:=pP l (acc ++ [lE acc o])
    simp only [eL]
    refine ⟨by rw [h1]; simp; omega,fun i hi=>?_,fun k x hk=>?_⟩
    · rw [h2 i (by simp; omega),AF hi]
    · cases k with
      | zero =>
        simp at hk; subst hk
        have e:(eL l (acc ++ [lE acc o]))[acc.length]?=some (lE acc o):=by rw [h2 _ (by simp)]; simp
        have e2:(eL l (acc ++ [lE acc o])).take acc.length=acc:=by
          apply DF
          intro i
          rw [AW]
          split
          · rename_i hi; rw [h2 i (by simp; omega),AF hi]
          · rename_i hi; rw [BI (by omega)]
        rw [CT,Zr,e,e2]
        rfl
      | succ k =>
        have:=h3 k x (by simpa using hk)
        simp only [List.length_append,AQ,BT] at this
        rw [show acc.length+(k+1)=acc.length+(0+1)+k from by omega]
        exact this

theorem nS {l:List Nat} {k j:Nat} (h:j<k):(l.take k).getD j 0=l.getD j 0:=by
  rw [Zr,AW,if_pos h,← Zr]

theorem uB {xs:List AO} {k i:Nat} {x:AO} (hx:xs[k]?=some x) (hb:∀ j,j∈x.after→j<k):((eL xs []).getD k 0).testBit i=true↔∃ j,j∈x.after∧(i=j∨((eL xs []).getD j 0).testBit i=true):=by
  have:=(pP xs []).2.2 k x hx
  simp only [BT,BF] at this
  rw [this,uA]
  constructor
  · rintro ⟨j,h1,h2⟩
    refine ⟨j,h1,?_⟩
    rwa [nS (hb j h1)] at h2
  · rintro ⟨j,h1,h2⟩
    refine ⟨j,h1,?_⟩
    rwa [nS (hb j h1)]

theorem nR:∀ {l:List Bool} {i:Nat},l[i]?=some false→(l.set i true).count false+1=l.count false
  | [],i,h=>by simp at h
  | b :: l,0,h=>by simp at h; subst h; simp
  | b :: l,i+1,h=>by
    simp only [List.set_cons_succ,List.count_cons]
    have:=nR (l:=l) (i:=i) (by simpa using h)
    omega

end

theorem iN {L V:Type} [DecidableEq L] {ℓ:L}:∀ {l:List (L×V)},(dO l ℓ).isSome=true→∃ p,p∈l∧p.1=ℓ:=by
  intro l
  unfold dO
  have gen:∀ (l:List (L×V)) (acc:Option V),(l.foldl (fun acc p=>if p.1=ℓ then some p.2 else acc) acc).isSome=true→acc.isSome=true∨∃ p,p∈l∧p.1=ℓ:=by
    intro l
    induction l with
    | nil=>intro acc h; exact .inl h
    | cons q l ih =>
      intro acc h
      simp only [BM] at h
      rcases ih _ h with h1 | ⟨p,h1,h2⟩
      · split at h1
        · rename_i hq; exact .inr ⟨q,by simp,hq⟩
        · exact .inl h1
      · exact .inr ⟨p,by simp [h1],h2⟩
  intro h
  rcases gen l none h with h | h
  · cases h
  · exact h
theorem iM {L V:Type} [DecidableEq L] {ℓ:L} {l:List (L×V)} (h:∀ p,p∈l→p.1≠ℓ):dO l ℓ=none:=by
  cases hl:dO l ℓ with
  | none=>rfl
  | some v =>
    obtain ⟨p,h1,h2⟩:=iN (l:=l) (ℓ:=ℓ) (by rw [hl]; rfl)
    exact absurd h2 (h p h1)

section
variable {P:Program} {O:uT}

theorem oD {xs:List AO} {tr:List Ef} {k t:Nat} {x:AO} (hx:xs[k]?=some x) (h:(dO (dS xs tr k) t).isSome=true):x.dst=some t:=by
  obtain ⟨p,h1,h2⟩:=iN h
  unfold dS at h1
  rw [hx] at h1
  split at h1
  · rename_i x' e h3 h4
    obtain rfl:=Zm h3
    split at h1
    · rename_i d hd
      simp at h1
      subst h1
      have h3:d=t:=h2
      rw [hd,h3]
    · simp at h1
  · simp at h1

theorem dK {xs:List AO} {un:List (Nat×Nat)} (h:eZ xs un=true) {i j:Nat} {x y:AO} (hij:i<j) (hx:xs[i]?=some x) (hy:xs[j]?=some y) :
    ((eL xs []).getD j 0).testBit i=true∨(kD x y=true∧(fN x.op=true∨fN y.op=true∨(i,j)∈un)):=by
  unfold eZ at h
  simp only [Zq] at h
  have hj:j<xs.length:=(Zw.1 hy).1
  have:=AA.1 (AA.1 h.2 j (CB.2 hj)) i (CB.2 hij)
  rw [hx,hy] at this
  simp only [AZ,Zq,List.contains_iff_mem] at this
  rcases this with h1 | ⟨h1,(h2 | h2) | h2⟩
  · exact .inl h1
  · exact .inr ⟨h1,.inl h2⟩
  · exact .inr ⟨h1,.inr (.inl h2)⟩
  · exact .inr ⟨h1,.inr (.inr h2)⟩

theorem lF {xs:List AO} {un:List (Nat×Nat)} (h:eZ xs un=true) {k:Nat} {x:AO} (hx:xs[k]?=some x):∀ j,j∈x.after→j<k:=by
  unfold eZ at h
  simp only [Zq] at h
  have hm:(x,k)∈xs.zipIdx:=by rw [List.mem_zipIdx_iff_getElem?]; exact hx
  have:=AA.1 h.1 (x,k) hm
  intro j hj
  simpa using AA.1 this j hj

theorem oY {x y:AO} (h:kD x y=true) {d:Nat} (hd:x.dst=some d):d∉y.tmps∧y.dst≠some d:=by
  unfold kD at h
  rw [hd] at h
  simp only [Zq,CD,decide_eq_true_eq] at h
  obtain ⟨⟨h1,h2⟩,_⟩:=h
  exact ⟨by simpa using h1,h2⟩
theorem vC {x y:AO} (h:kD x y=true) {d:Nat} (hd:y.dst=some d):d∉x.tmps:=by
  unfold kD at h
  rw [hd] at h
  simp only [Zq,CD] at h
  simpa using h.2

theorem oX {e f:Ef} (h:apartN e f=true) {p:Nat×Option Blk} (hp:p∈e.2.1):p.1∉f.2.2∧∀ q,q∈f.2.1→q.1≠p.1:=by
  unfold apartN at h
  simp only [Zq] at h
  have:=AA.1 h.1 p hp
  simp only [Zq,CD] at this
  exact ⟨by simpa using this.1,fun q hq=>by simpa using AA.1 this.2 q hq⟩
theorem vB {e f:Ef} (h:apartN e f=true) {p:Nat×Option Blk} (hp:p∈f.2.1):p.1∉e.2.2:=by
  unfold apartN at h
  simp only [Zq] at h
  have:=AA.1 h.2 p hp
  simp only [CD] at this
  simpa using this
theorem rM {un:List (Nat×Nat)} {tr:List Ef} (h:dynOk un tr=true) {i j:Nat} (hm:(i,j)∈un) {e f:Ef} (he:tr[i]?=some e) (hf:tr[j]?=some f):apartN e f=true:=by
  have:=AA.1 h (i,j) hm
  simp only [he,hf] at this
  exact this

theorem vZ {id : Nat} {ops:Array Oper} {un:List (Nat×Nat)} {xs:List AO} {b:Nat} {env env':List AV} {m m':AM} {tr:List Ef} {a:Act} {c:Ctx} {Q:Exit→Act→World→Prop} (hmix:P.follows .mixedOrders=true) (hO:lR P O) (hL:nY O)
    (hx:rW P ops ops.toList=some xs) (hst:eZ xs un=true) (hrun:runD O xs b env m=some (env',m',tr)) (hdyn:dynOk un tr=true) (hdst:sF env.length xs=true) (hc:Gd c) (hm:c.m=m.get) (hU:∀ n,c.U n→n<b) (he:ER c env a.tmps)
    (hK:∀ c' a',Gd c'→St c c'→c'.m=m'.get→(∀ n,c'.U n→c.U n∨b≤n∧n<b+16 * xs.length)→ER c' env' a'.tmps→a'.defers=a.defers→Q .normal a' c'.w):(Code.region id ops true).wp P Q a c.w:=by
  obtain ⟨hlen,hat⟩:=oV hx
  obtain ⟨htl,hfin,hsteps⟩:=mJ hrun
  have hsz:ops.size=xs.length:=by rw [← hlen]; simp
  let n:=xs.length
  let σS:=fun t=>env.getD t AV.und
  have hval:=tA (m:=m) htl hdst
  -- the invariant
  have main : ∀ (fuel:Nat) (listed:Array Bool) (a':Act) (c':Ctx),listed.size=n→listed.toList.count false≤fuel→Gd c'→St c c' →
      (∃ envS,ER c' envS a'.tmps∧envS.length=env.length∧∀ t,envS.getD t .und=val σS (dS xs tr) n (fun k=>listed.getD k false) t) →
      (∀ g,c'.m g=val m.get (dN tr) n (fun k=>listed.getD k false) g)→(∀ g,c'.U g→c.U g∨∃ k,k<n∧listed.getD k false=true∧b+16 * k≤g∧g<b+16 * k+16) →
      (∀ k,listed.getD k false=true→∀ j,((eL xs []).getD k 0).testBit j=true→listed.getD j false=true)→a'.defers=a.defers→wpAny P .any ops Q fuel listed a' c'.w:=by
    intro fuel
    induction fuel with
    | zero =>
      intro listed a' c' hls hcnt h1 h2 h3 h4 h5 h6 h7
      have hall:∀ k,k<n→listed.getD k false=true:=by
        intro k hk
        have hkl:k<listed.size:=by omega
        have hno:false∉listed.toList:=List.count_eq_zero.1 (by omega)
        have hb:listed[k]≠false:=fun e=>hno (by rw [← e]; simp)
        have:listed[k]=true:=by cases h:listed[k] with
          | true=>rfl
          | false=>exact absurd h hb
        simpa [Zp,hkl] using this
      refine ⟨?_,?_⟩
      · cases hr:Region.ready .any ops listed with
        | nil=>rfl
        | cons i l =>
          obtain ⟨q1,o,q2,_⟩:=(mem_ready (md:=.any) (ops:=ops) (listed:=listed) (j:=i)).1 (by rw [hr]; simp)
          have hi:i<n:=by show i<xs.length; rw [← hsz]; exact (AT.1 q2).1
          have:=hall i hi
          have hil:i<listed.size:=by omega
          simp [Zp,hil] at q1 this
          rw [q1] at this; cases this
      · obtain ⟨envS,e1,e2,e3⟩:=h3
        have he':envS=env':=by
          have hv:=hval n (AP _)
          have hf1:env'=(qG env m xs tr xs.length).1:=congrArg Prod.fst hfin
          apply DF
          intro i
          have hg:envS.getD i .und=env'.getD i .und:=by
            rw [e3,hf1,hv.2.1 i]
            exact dL fun k hk _=>by rw [hall k hk]; exact (decide_eq_true (show k<xs.length from hk)).symm
          have hl':env'.length=env.length:=by rw [hf1]; exact hv.1
          by_cases hi:i<env.length
          · rw [Zz (by omega),Zz (by omega)]
            rw [Zr,Zr,Zz (by omega),Zz (by omega)] at hg
            simpa using hg
          · rw [BI (by omega),BI (by omega)]
        subst he'
        refine hK c' a' h1 h2 ?_ (fun g hg=>?_) e1 h7
        · funext g
          have hf2:m'=(qG env m xs tr xs.length).2:=congrArg Prod.snd hfin
          rw [h4 g,hf2,(hval n (AP _)).2.2 g]
          exact dL fun k hk _=>by rw [hall k hk]; exact (decide_eq_true (show k<xs.length from hk)).symm
        · rcases h5 g hg with q | ⟨k,q1,_,q3,q4⟩
          · exact .inl q
          · have:k+1≤xs.length:=q1
            exact .inr ⟨by omega,by omega⟩
    | succ fuel ih =>
      intro listed a' c' hls hcnt h1 h2 h3 h4 h5 h6 h7
      -- who is least of those that are left is ready
      have least : Region.ready .any ops listed=[]→∀ k,k<n→listed.getD k false=true:=by
        intro hr k
        induction k using Nat.strongRecOn with
        | _ k ihk =>
          intro hk
          cases hlk:listed.getD k false with
          | true=>rfl
          | false =>
            exfalso
            have hko:k<ops.size:=by rw [hsz]; exact hk
            obtain ⟨x,hxk,hxo⟩:=hat k ops[k] (by simp [hko])
            have hback:=lF hst hxk
            have hmem:k∈Region.ready .any ops listed:=by
              rw [mem_ready]
              have hkl:k<listed.size:=by omega
              refine ⟨by simpa [Zp,hkl] using hlk,ops[k],by simp [hko],fun e he hb=>?_⟩
              have haft:e.on∈x.after:=by
                rw [(rV hxo).2.2.2]
                unfold nZ
                rw [AG]
                exact ⟨e,by rw [CN]; exact ⟨by simpa using he,hb⟩,rfl⟩
              exact ihk _ (hback _ haft) (by have:=hback _ haft; omega)
            rw [hr] at hmem
            cases hmem
      refine ⟨fun hr=>?_,fun i hi=>?_⟩
      · have hall:=least hr
        obtain ⟨envS,e1,e2,e3⟩:=h3
        have he':envS=env':=by
          have hv:=hval n (AP _)
          have hf1:env'=(qG env m xs tr xs.length).1:=congrArg Prod.fst hfin
          apply DF
          intro i
          have hg:envS.getD i .und=env'.getD i .und:=by
            rw [e3,hf1,hv.2.1 i]
            exact dL fun k hk _=>by rw [hall k hk]; exact (decide_eq_true (show k<xs.length from hk)).symm
          have hl':env'.length=env.length:=by rw [hf1]; exact hv.1
          by_cases hi:i<env.length
          · rw [Zz (by omega),Zz (by omega)]
            rw [Zr,Zr,Zz (by omega),Zz (by omega)] at hg
            simpa using hg
          · rw [BI (by omega),BI (by omega)]
        subst he'
        refine hK c' a' h1 h2 ?_ (fun g hg=>?_) e1 h7
        · funext g
          have hf2:m'=(qG env m xs tr xs.length).2:=congrArg Prod.snd hfin
          rw [h4 g,hf2,(hval n (AP _)).2.2 g]
          exact dL fun k hk _=>by rw [hall k hk]; exact (decide_eq_true (show k<xs.length from hk)).symm
        · rcases h5 g hg with q | ⟨k,q1,_,q3,q4⟩
          · exact .inl q
          · have:k+1≤xs.length:=q1
            exact .inr ⟨by omega,by omega⟩
      · obtain ⟨q1,o,q2,q3⟩:=mem_ready.1 hi
        have hio:i<ops.size:=(AT.1 q2).1
        have hin:i<n:=by show i<xs.length; omega
        have hil:i<listed.size:=by omega
        have hSi:listed.getD i false=false:=by simp [Zp,hil] at q1 ⊢; exact q1
        obtain ⟨x,hxi,hxo⟩:=hat i o (by rw [CV]; exact q2)
        obtain ⟨e,he1,he2⟩:=hsteps i x hxi
        have hpred:∀ j,j∈x.after→listed.getD j false=true:=by
          intro j hj
          rw [(rV hxo).2.2.2] at hj
          unfold nZ at hj
          rw [AG] at hj
          obtain ⟨ed,hed,rfl⟩:=hj
          rw [CN] at hed
          exact q3 ed (by simpa using hed.1) hed.2
        -- whoever is ahead of it is there; whoever it is ahead of is not
        have ahead:∀ j,((eL xs []).getD i 0).testBit j=true→listed.getD j false=true:=by
          intro j hj
          rw [uB hxi (lF hst hxi)] at hj
          obtain ⟨q,hq1,rfl | hq2⟩:=hj
          · exact hpred _ hq1
          · exact h6 q (hpred q hq1) j hq2
        have behind:∀ j,((eL xs []).getD j 0).testBit i=true→listed.getD j false=false:=by
          intro j hj
          cases hlj:listed.getD j false with
          | false=>rfl
          | true=>have:=h6 j hlj i hj; rw [hSi] at this; cases this
        have xat:∀ j,j<n→∃ y f,xs[j]?=some y∧tr[j]?=some f∧(fN y.op=true→f.2.1=[]∧f.2.2=[]):=by
          intro j hj
          have hy:xs[j]?=some xs[j]:=Zz hj
          obtain ⟨f,f1,f2⟩:=hsteps j _ hy
          exact ⟨_,f,hy,f1,fun hp=>nM hp f2⟩
        have hpe:fN x.op=true→e.2.1=[]∧e.2.2=[]:=fun hp=>nM hp he2
        obtain ⟨envS,s1,s2,s3⟩:=h3
        have hstep:gQ O envS c'.m (b+16 * i) x=some e:=by
          refine qH hL he2 (fun t ht=>?_) (fun g hg=>?_)
          · rw [s3,(hval i (Nat.le_of_lt hin)).2.1 t]
            refine dL fun j hj hl=>?_
            obtain ⟨y,f,y1,y2,_⟩:=xat j hj
            have hdst:=oD y1 hl
            rcases FQ j i with hji | hji | hji
            · rcases dK hst hji y1 hxi with hb | ⟨hb,_⟩
              · rw [ahead j hb]; simp [hji]
              · exact absurd ht (oY hb hdst).1
            · subst hji; rw [hSi]; simp
            · rcases dK hst hji hxi y1 with hb | ⟨hb,_⟩
              · rw [behind j hb]; simp; omega
              · exact absurd ht (vC hb hdst)
          · rw [h4,(hval i (Nat.le_of_lt hin)).2.2 g]
            refine dL fun j hj hl=>?_
            obtain ⟨y,f,y1,y2,yp⟩:=xat j hj
            obtain ⟨p,p1,p2⟩:=iN hl
            simp only [dN,y2] at p1
            rcases FQ j i with hji | hji | hji
            · rcases dK hst hji y1 hxi with hb | ⟨_,hb | hb | hb⟩
              · rw [ahead j hb]; simp [hji]
              · rw [(yp hb).1] at p1; cases p1
              · rw [(hpe hb).2] at hg; cases hg
              · have:=(oX (rM hdyn hb y2 he1) p1).1
                rw [p2] at this; exact absurd hg this
            · subst hji; rw [hSi]; simp
            · rcases dK hst hji hxi y1 with hb | ⟨_,hb | hb | hb⟩
              · rw [behind j hb]; simp; omega
              · rw [(hpe hb).2] at hg; cases hg
              · rw [(yp hb).1] at p1; cases p1
              · have:=vB (rM hdyn hb he1 y2) p1
                rw [p2] at this; exact absurd hg this
        have hfresh:∀ g,b+16 * i≤g→g<b+16 * i+16→¬ c'.U g:=by
          intro g g1 g2 hUg
          rcases h5 g hUg with q | ⟨k,_,k2,k3,k4⟩
          · have:=hU g q; omega
          · have:k=i:=by omega
            subst this; rw [hSi] at k2; cases k2
        unfold wpOp
        rw [q2]
        refine tB (K:=wpAny P .any ops Q fuel (listed.setIfInBounds i true)) hO hxo h1 rfl s1 hfresh hstep ?_
        intro c2 v k1 k2 k3 k4 k5
        have hgd:∀ k,(listed.setIfInBounds i true).getD k false=(listed.getD k false || decide (k=i)):=by
          intro k
          by_cases hki:k=i
          · subst hki; simp [Zp,hil]
          · simp only [Zp,Array.getElem?_setIfInBounds_ne (Ne.symm hki),hki,decide_false,Bool.or_false]
        have hset:(fun k=>(listed.setIfInBounds i true).getD k false)=fun k=>listed.getD k false || decide (k=i):=funext hgd
        refine ih (listed.setIfInBounds i true) (a'.put x.dst v) c2 (by simp [hls]) ?_ k1 (h2.trans k2) ?_ ?_ ?_ ?_ ?_
        · have hlf:listed.toList[i]?=some false:=by
            rw [CV,CM hil]
            simpa [Zp,hil] using hSi
          have:=nR hlf
          rw [Array.toList_setIfInBounds]
          omega
        · refine ⟨gG envS x.dst e.1,pV (s1.mono k2) k5,by rw [hD,s2],fun t=>?_⟩
          rw [hset,gM hin hSi (fun j j1 j2 j3 hl=>?_)]
          · rw [← s3 t]
            have hdS:dS xs tr i=match x.dst with | some d=>[(d,e.1)] | none=>[]:=by
              simp only [dS,hxi,he1]
              first | done | (cases x.dst <;> rfl)
            rw [hdS]
            cases hxd:x.dst with
            | none=>simp [gG,dO]
            | some d =>
              have hdl:d<env.length:=by
                have:=AA.1 hdst x (AL hxi)
                rw [hxd] at this
                simpa using this
              simp only [gG,dO,BM,GI]
              rw [Zr,CO]
              by_cases hdt:d=t
              · subst hdt; simp [s2,hdl]
              · simp [hdt]
          · obtain ⟨y,f,y1,y2,_⟩:=xat j j2
            rcases dK hst j1 hxi y1 with hb | ⟨hb,_⟩
            · rw [behind j hb] at j3; cases j3
            · have hdst:=oD hxi hl
              cases hlj:dO (dS xs tr j) t with
              | none=>rfl
              | some z =>
                have:=oD (tr:=tr) (t:=t) y1 (by rw [hlj]; rfl)
                exact absurd this (oY hb hdst).2
        · intro g
          rw [k3,hset,gM hin hSi (fun j j1 j2 j3 hl=>?_)]
          · rw [fZ,h4 g]
            have:dN tr i=e.2.1:=by simp only [dN,he1]
            rw [this]
          · obtain ⟨y,f,y1,y2,yp⟩:=xat j j2
            obtain ⟨p,p1,p2⟩:=iN hl
            simp only [dN,he1] at p1
            rcases dK hst j1 hxi y1 with hb | ⟨_,hb | hb | hb⟩
            · rw [behind j hb] at j3; cases j3
            · rw [(hpe hb).1] at p1; cases p1
            · refine iM fun q hq=>?_
              simp only [dN,y2,(yp hb).1] at hq; cases hq
            · refine iM fun q hq=>?_
              simp only [dN,y2] at hq
              rw [← p2]
              exact (oX (rM hdyn hb he1 y2) p1).2 q hq
        · intro g hg
          rcases k4 g hg with q | q
          · exact .inr ⟨i,hin,by rw [hgd]; simp,q.1,q.2⟩
          · rcases h5 g q with q | ⟨k,r1,r2,r3,r4⟩
            · exact .inl q
            · exact .inr ⟨k,r1,by rw [hgd,r2]; rfl,r3,r4⟩
        · intro k hk j hj
          rw [hgd] at hk ⊢
          rw [AZ] at hk ⊢
          left
          rcases hk with hk | hk
          · exact h6 k hk j hj
          · have:k=i:=by simpa using hk
            subst this
            exact ahead j hj
        · cases x.dst <;> exact h7
  obtain ⟨hd1,hd2⟩:=hc.draw
  refine wp_region_any hmix ?_
  have h0:∀ k,(DV ops.size false).getD k false=false:=by
    intro k
    by_cases hk:k<ops.size
    · simp [Zp,hk]
    · simp [Zp,hk]
  have hz:(fun k=>(DV ops.size false).getD k false)=fun j=>decide (j<0):=by funext k; rw [h0]; simp
  refine main ops.size (DV ops.size false) a { c with w:=c.w.drew } (by simp [hsz]; rfl) (by simp) hd1 hd2 ⟨env,he.mono hd2,rfl,fun t=>?_⟩ (fun g=>?_) (fun g hg=>.inl hg) (fun k hk=>by rw [h0] at hk; cases hk) rfl
  · rw [hz,← (hval 0 (BS _)).2.1 t]; rfl
  · rw [hz,← (hval 0 (BS _)).2.2 g]; show c.m g=_; rw [hm]; rfl
end
end Go.Sak
