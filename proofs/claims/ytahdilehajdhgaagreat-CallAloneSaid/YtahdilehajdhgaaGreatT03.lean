/- Part T03 of the proofs about the program: R, S, T, U, V, W, X, Y, Z, Xa, Zc, Xg. Conditions: none. -/
import Derived.Test.YtahdilehajdhgaaGreatT02
open Go.Sak.AM renaming del→f6,get→J0,get_upd→U5
open Array renaming getD_eq_getD_getElem?→F0
open Bool renaming and_eq_true→D9,and_self→Y1,false_eq_true→G0,or_eq_true→H9
open List renaming all_eq_true→G4,append_nil→N3,contains_iff_mem→H6,findIdx?_eq_none_iff→V0,findIdx?_eq_some_iff_getElem→S5,foldl_cons→N7,getD_eq_getElem?_getD→E6,getElem?_append_left→H4,getElem?_append_right→I6,getElem?_eq_getElem→F9,getElem?_eq_some_iff→F6,getElem?_map→P3,getElem_mem→X8,length_cons→I5,map_congr_left→O7,map_cons→N4,map_id→Z7,map_nil→T6,mem_append→N9,mem_append_right→X3,mem_cons→N2,mem_cons_of_mem→H8,mem_cons_self→J7,mem_map→G5,mem_of_getElem?→I7,mem_range→R2,nil_append→I9,nodup_cons→Q4,range→Q2,replicate→M0,take_of_length_le→F3
open Nat renaming add_mul→O1,le_refl→G1,le_trans→P8,lt_of_lt_of_le→H5,lt_trichotomy→X0,mul_le_mul_right→I8,zero_add→L8,zero_le→M6
open Option renaming isSome_iff_exists→G2,map_eq_some_iff→E7,map_none→R5,map_some→L9
open Option.some renaming inj→E5,injEq→E9
namespace Go.Sak
open Go Go.RowKit
set_option linter.unusedVariables false
set_option linter.unusedSimpArgs false

inductive Ex where | normal | exit (id:Nat) | ret
def Ex.to:Ex→Exit
  | .normal=>.normal
  | .exit i=>.exit i
  | .ret=>.ret
abbrev KE:=List AV→AM→Nat→Prop
abbrev KX:=Ex→KE

def NA (P:Program) (f:FuncId) (args:List AV) (e:Ef) (m:Nat→Option Blk) (b:Nat):Prop:=∀ m',(∀ g,g∈e.2.2→m' g=m g)→MC P f args e m' b
def AC (P:Program) (f:FuncId) (args:List AV) (m:AM) (b:Nat) (κ:Ef→Prop):Prop:=∃ e,NA P f args e m.get b∧κ e
def nJ:Option OR→(Ef→Prop)→Prop
  | some r,κ=>κ (r.v,r.ups,r.rd)
  | none,_=>False
def vY (P:Program):AV→List AV→AM→Nat→(Ef→Prop)→Prop
  | .fn (.func g) first cap,as,m,b,κ=>AC P g (first ++ as ++ cap) m b κ
  | _,_,_,_,_=>False
def Ca (P:Program) (tb:List (Nat×Nat)):AV→List AV→AM→Nat→(Ef→Prop)→Prop
  | .iface t v,as,m,b,κ=>match FV tb t with
    | some g=>AC P g (v :: as) m b κ
    | none=>False
  | _,_,_,_,_=>False
def lK (P:Program) (op:AOp) (κ:Ef→Prop) (env:List AV) (m:AM) (b:Nat):Prop :=
  match op with
  | .call f args=>AC P f (args.map (·.eval env)) m b κ
  | .callv x args=>vY P (x.eval env) (args.map (·.eval env)) m b κ
  | .invoke x tb args=>Ca P tb (x.eval env) (args.map (·.eval env)) m b κ
  | x=>nJ (aop m.get env b x) κ
def gT (P:Program):Bool→AOp→(Ef→Prop)→List AV→AM→Nat→Prop
  | true,op,κ,env,m,b=>lK P op κ env m b
  | false,_,κ,_,_,_=>κ (.tup [],[],[])
def jW (P:Program):AV→Bool→AOp→(Ef→Prop)→List AV→AM→Nat→Prop
  | .bool t,want,op,κ,env,m,b=>gT P (t == want) op κ env m b
  | .tup [],_,_,κ,_,_,_=>κ (.tup [],[],[])
  | _,_,_,_,_,_,_=>False
def gK (P:Program):Option (Nat×Bool)→AOp→(Ef→Prop)→List AV→AM→Nat→Prop
  | none,op,κ,env,m,b=>lK P op κ env m b
  | some (s,want),op,κ,env,m,b=>jW P (env.getD s .und) want op κ env m b
def AP (k:KE) (d:Option Nat) (env:List AV) (m:AM) (b:Nat) (e:Ef):Prop:=k (qX env d e.1) (m.upd e.2.1) (b+16)
def xI (P:Program):List AO→KE→KE
  | [],k,env,m,b=>k env m b
  | o :: rest,k,env,m,b=>gK P o.guard o.op (AP (xI P rest k) o.dst env m b) env m b
def AQ (k:List Ef→KE) (tr:List Ef) (d:Option Nat) (env:List AV) (m:AM) (b:Nat) (e:Ef):Prop:=k (e :: tr) (qX env d e.1) (m.upd e.2.1) (b+16)
def vR (P:Program) (un:List (Nat×Nat)):List AO→KE→List Ef→KE
  | [],k,tr,env,m,b=>dynOk un tr.reverse=true∧k env m b
  | o :: rest,k,tr,env,m,b=>gK P o.guard o.op (AQ (vR P un rest k) tr o.dst env m b) env m b

inductive ACode where
  | skip
  | ret
  | exit (id:Nat)
  | seq (x y:ACode)
  | block (id:Nat) (x:ACode)
  | cond (c:Opd) (x y:ACode)
  | loop (x:ACode)
  | reg (ops:List AO)
  | regT (ops:List AO) (un:List (Nat×Nat))

def Jw (k:KE) (K:KX):KX
  | .normal,env,m,b=>k env m b
  | .exit i,env,m,b=>K (.exit i) env m b
  | .ret,env,m,b=>K .ret env m b
def rT (id:Nat) (K:KX):KX
  | .exit i,env,m,b=>if i=id then K .normal env m b else K (.exit i) env m b
  | .normal,env,m,b=>K .normal env m b
  | .ret,env,m,b=>K .ret env m b
def zB:Bool→KE→KE→KE
  | true,x,_,env,m,b=>x env m b
  | false,_,y,env,m,b=>y env m b
def Eb:AV→KE→KE→KE
  | .bool t,x,y,env,m,b=>zB t x y env m b
  | _,_,_,_,_,_=>False

def SubS (b0:Nat) (env:List AV) (m:AM) (b:Nat) (env':List AV) (m':AM) (b':Nat):Prop :=
  ∀ (c0 c:Ctx) (ts:Array Value),(∀ n,c0.U n→n<b0)→Gd c→St c0 c→c.m=m.get→(∀ n,c.U n→c0.U n∨b0≤n∧n<b)→ER c env ts →
    ∃ c',c'.w=c.w∧Gd c'∧St c0 c'∧c'.m=m'.get∧(∀ n,c'.U n→c0.U n∨b0≤n∧n<b')∧ER c' env' ts
def IK (b0:Nat) (I:Nat→KE) (n:Nat) (K:KX):KX
  | .normal,env,m,b=>∃ n' env' m' b',n'<n∧SubS b0 env m b env' m' b'∧b0≤b'∧I n' env' m' b'
  | .exit i,env,m,b=>K (.exit i) env m b
  | .ret,env,m,b=>K .ret env m b
def LP (b0:Nat) (body:KX→KE) (K:KX):KE:=fun env m b=>∃ I:Nat→KE,(∃ n env' m' b',SubS b0 env m b env' m' b'∧b0≤b'∧I n env' m' b') ∧
  ∀ n env m b,b0≤b→I n env m b→body (IK b0 I n K) env m b

def vc (P:Program) (b0:Nat):ACode→KX→KE
  | .skip,K,env,m,b=>K .normal env m b
  | .ret,K,env,m,b=>K .ret env m b
  | .exit i,K,env,m,b=>K (.exit i) env m b
  | .seq x y,K,env,m,b=>vc P b0 x (Jw (vc P b0 y K) K) env m b
  | .block i x,K,env,m,b=>vc P b0 x (rT i K) env m b
  | .cond c x y,K,env,m,b=>Eb (c.eval env) (vc P b0 x K) (vc P b0 y K) env m b
  | .loop x,K,env,m,b=>LP b0 (vc P b0 x) K env m b
  | .reg ops,K,env,m,b=>xI P ops (K .normal) env m b
  | .regT ops un,K,env,m,b=>vR P un ops (K .normal) [] env m b

def MF (xs:List AO):List (Nat×Nat) :=
  let ms:=mQ xs []
  (Q2 xs.length).flatMap fun j=>((Q2 j).filter fun i=>match xs[i]?,xs[j]? with
    | some x,some y=>!((ms.getD j 0).testBit i) && !(pD x.op) && !(pD y.op)
    | _,_=>false).map fun i=>(i,j)
def AO.bare (o:AO):AO:={ o with after:=[] }
theorem Da (P:Program):∀ (xs:List AO) (k:KE),xI P (xs.map AO.bare) k=xI P xs k
  | [],k=>rfl
  | o :: rest,k=>by funext env m b; simp only [N4,xI,Da P rest,AO.bare]
theorem Kb (P:Program) (un:List (Nat×Nat)):∀ (xs:List AO) (k:KE) (tr:List Ef),vR P un (xs.map AO.bare) k tr=vR P un xs k tr
  | [],k,tr=>rfl
  | o :: rest,k,tr=>by
    have:vR P un (rest.map AO.bare) k=vR P un rest k:=funext fun tr=>Kb P un rest k tr
    funext env m b; simp only [N4,vR,this,AO.bare]
def lV (P:Program) (n:Nat):Code→Option ACode
  | .skip=>some .skip
  | .ret=>some .ret
  | .exit i=>some (.exit i)
  | .seq x y=>match lV P n x,lV P n y with
    | some x',some y'=>some (.seq x' y')
    | _,_=>none
  | .block i x=>(lV P n x).map (.block i)
  | .cond c x y=>match gL c,lV P n x,lV P n y with
    | some c',some x',some y'=>some (.cond c' x' y')
    | _,_,_=>none
  | .loop x=>(lV P n x).map .loop
  | .region _ ops draws=>match Mk P ops ops.toList with
    | none=>none
    | some xs=>if draws then
        (if nX xs (MF xs) && Nq n xs then some (match MF xs with | []=>.reg (xs.map AO.bare) | u=>.regT (xs.map AO.bare) u) else none)
      else some (.reg (xs.map AO.bare))
  | _=>none

section
variable {P:Program}

def Ms (P:Program) (o:AO) (env:List AV) (m:AM) (b:Nat) (e:Ef):Prop :=
  match mI o.guard env with
  | none=>False
  | some false=>e=(.tup [],[],[])
  | some true=>match target env o.op with
    | some (f,as)=>NA P f as e m.get b
    | none=>∃ r,aop m.get env b o.op=some r∧e=(r.v,r.ups,r.rd)
def RunR (P:Program):List AO→Nat→List AV→AM→List AV×AM×List Ef→Prop
  | [],b,env,m,r=>r=(env,m,[])
  | o :: rest,b,env,m,r=>∃ e r',Ms P o env m b e∧RunR P rest (b+16) (qX env o.dst e.1) (m.upd e.2.1) r'∧r=(r'.1,r'.2.1,e :: r'.2.2)

theorem Ka {op:AOp} {κ:Ef→Prop} {env:List AV} {m:AM} {b:Nat} (h:lK P op κ env m b) :
    ∃ e,(match target env op with | some (f,as)=>NA P f as e m.get b | none=>∃ r,aop m.get env b op=some r∧e=(r.v,r.ups,r.rd))∧κ e:=by
  unfold lK at h
  split at h
  · obtain ⟨e,h1,h2⟩:=h; exact ⟨e,h1,h2⟩
  · rename_i x args
    unfold vY at h
    split at h
    · rename_i heq
      obtain ⟨e,h1,h2⟩:=h
      refine ⟨e,?_,h2⟩
      simp only [target,heq]
      exact h1
    · exact h.elim
  · rename_i x tb args
    unfold Ca at h
    split at h
    · rename_i t v heq
      split at h
      · rename_i g hg
        obtain ⟨e,h1,h2⟩:=h
        refine ⟨e,?_,h2⟩
        simp only [target,heq,hg]
        exact h1
      · exact h.elim
    · exact h.elim
  · rename_i hn1 hn2 hn3
    unfold nJ at h
    split at h
    · rename_i r hr
      refine ⟨_,?_,h⟩
      have:target env op=none:=by
        unfold target
        split
        · exact absurd rfl (hn1 _ _)
        · exact absurd rfl (hn2 _ _)
        · exact absurd rfl (hn3 _ _ _)
        · rfl
      rw [this]
      exact ⟨r,hr,rfl⟩
    · exact h.elim

theorem Nv {o:AO} {κ:Ef→Prop} {env:List AV} {m:AM} {b:Nat} (h:gK P o.guard o.op κ env m b):∃ e,Ms P o env m b e∧κ e:=by
  unfold Ms
  cases hg:o.guard with
  | none =>
    rw [hg] at h
    obtain ⟨e,h1,h2⟩:=Ka h
    exact ⟨e,by simpa only [mI] using h1,h2⟩
  | some p =>
    obtain ⟨s,want⟩:=p
    rw [hg] at h
    simp only [gK] at h
    simp only [mI]
    cases hv:env.getD s .und with
    | bool t =>
      rw [hv] at h
      simp only [jW] at h
      simp only
      cases htw:(t == want) with
      | true =>
        rw [htw] at h
        obtain ⟨e,h1,h2⟩:=Ka h
        exact ⟨e,h1,h2⟩
      | false =>
        rw [htw] at h
        exact ⟨_,rfl,h⟩
    | tup l =>
      rw [hv] at h
      cases l with
      | nil=>exact ⟨_,rfl,h⟩
      | cons x l=>exact h.elim
    | _=>rw [hv] at h; exact h.elim

theorem Hc {k:KE}:∀ {xs:List AO} {env:List AV} {m:AM} {b:Nat},xI P xs k env m b→∃ r,RunR P xs b env m r∧k r.1 r.2.1 (b+16 * xs.length)
  | [],env,m,b,h=>⟨(env,m,[]),rfl,h⟩
  | o :: rest,env,m,b,h=>by
    obtain ⟨e,h1,h2⟩:=Nv h
    obtain ⟨r,h3,h4⟩:=Hc h2
    exact ⟨(r.1,r.2.1,e :: r.2.2),⟨e,r,h1,h3,rfl⟩,by rw [I5,show b+16 * (rest.length+1)=b+16+16 * rest.length from by omega]; exact h4⟩
theorem Po {un:List (Nat×Nat)} {k:KE}:∀ {xs:List AO} {tr:List Ef} {env:List AV} {m:AM} {b:Nat},vR P un xs k tr env m b →
    ∃ r,RunR P xs b env m r∧dynOk un (tr.reverse ++ r.2.2)=true∧k r.1 r.2.1 (b+16 * xs.length)
  | [],tr,env,m,b,h=>⟨(env,m,[]),rfl,by simpa using h.1,h.2⟩
  | o :: rest,tr,env,m,b,h=>by
    obtain ⟨e,h1,h2⟩:=Nv h
    obtain ⟨r,h3,h5,h4⟩:=Po h2
    refine ⟨(r.1,r.2.1,e :: r.2.2),⟨e,r,h1,h3,rfl⟩,by simpa using h5,?_⟩
    rw [I5,show b+16 * (rest.length+1)=b+16+16 * rest.length from by omega]
    exact h4

open Classical in
noncomputable def orc (P:Program) (q:Nat→Option Ef):Ty:=fun f args m b=>match q b with
  | some e=>if NA P f args e m b then some e else none
  | none=>none
theorem So (q:Nat→Option Ef):Ar P (orc P q):=by
  intro f args m b e h
  unfold orc at h
  split at h
  · split at h
    · rename_i h1
      obtain rfl:=E5 h
      exact h1 m fun _ _=>rfl
    · cases h
  · cases h
theorem Sn (q:Nat→Option Ef):Fo (orc P q):=by
  intro f args m m' b e h hm
  unfold orc at h ⊢
  split at h
  · rename_i e1 hq
    split at h
    · rename_i h1
      obtain rfl:=E5 h
      have:NA P f args e1 m' b:=fun m2 h2=>h1 m2 fun g hg=>(h2 g hg).trans (hm g hg)
      simp only [this,if_true]
    · cases h
  · cases h
theorem RunR.runD {q:Nat→Option Ef}:∀ {xs:List AO} {b:Nat} {env:List AV} {m:AM} {r:List AV×AM×List Ef},RunR P xs b env m r→(∀ (i:Nat) (e:Ef),r.2.2[i]?=some e→q (b+16 * i)=some e)→runD (orc P q) xs b env m=some r
  | [],b,env,m,r,h,hq=>by rw [show r=_ from h]; rfl
  | o :: rest, b,env,m,r,h,hq=>by
    obtain ⟨e,r',h1,h2,rfl⟩:=h
    have hs : sC (orc P q) env m.get b o=some e:=by
      unfold Ms at h1
      unfold sC
      split at h1
      · exact h1.elim
      · rename_i hg; subst h1; rw [hg]
      · rename_i hg
        rw [hg]
        simp only
        split at h1
        · rename_i f as ht
          have hq0:q b=some e:=hq 0 e rfl
          have ho:orc P q f as m.get b=some e:=by unfold orc; simp only [hq0,h1,if_true]
          unfold target at ht
          split at ht
          · rename_i hop
            simp only [E9,Prod.mk.injEq] at ht
            obtain ⟨rfl,rfl⟩:=ht
            rw [hop]; exact ho
          · rename_i hop
            split at ht
            · rename_i heq
              simp only [E9,Prod.mk.injEq] at ht
              obtain ⟨rfl,rfl⟩:=ht
              rw [hop]; simp only [ex,heq]; exact ho
            · cases ht
          · rename_i hop
            split at ht
            · rename_i heq
              split at ht
              · rename_i hg
                simp only [E9,Prod.mk.injEq] at ht
                obtain ⟨rfl,rfl⟩:=ht
                rw [hop]; simp only [ex,heq,hg]; exact ho
              · cases ht
            · cases ht
          · cases ht
        · rename_i ht
          obtain ⟨r1,h3,rfl⟩:=h1
          revert ht h3
          generalize o.op=op
          intro ht h3
          unfold ex
          split
          · rename_i hop; simp [target] at ht
          · rename_i x args
            exfalso
            simp [aop] at h3
          · exfalso; simp [aop] at h3
          · rw [h3]; rfl
    have:=RunR.runD h2 (fun i e' hi=>by rw [show b+16+16 * i=b+16 * (i+1) from by omega]; exact hq (i+1) e' (by simpa using hi))
    simp only [Go.Sak.runD,hs,this]
theorem RunR.orc {xs:List AO} {b:Nat} {env:List AV} {m:AM} {r:List AV×AM×List Ef} (h:RunR P xs b env m r):∃ O,Ar P O∧Fo O∧Sak.runD O xs b env m=some r:=by
  refine ⟨Sak.orc P fun n=>r.2.2[(n - b) / 16]?,So _,Sn _,h.runD fun i e hi=>?_⟩
  rw [show (b+16 * i - b) / 16=i from by omega]
  exact hi

theorem Eu {O : Ty} (hO : Ar P O) {ops:Array Oper} {Q:Exit→Act→World→Prop}:∀ {xs:List AO} {k b:Nat} {env env':List AV} {m m':AM} {tr:List Ef} {a:Act} {c:Ctx},
    (∀ (i:Nat) (x:AO),xs[i]?=some x→∃ o,ops[k+i]?=some o∧NG P ops o=some x)→runD O xs b env m=some (env',m',tr)→Gd c→c.m=m.get→(∀ n,c.U n→n<b)→ER c env a.tmps →
    (∀ c' a',Gd c'→St c c'→c'.m=m'.get→(∀ n,c'.U n→c.U n∨b≤n∧n<b+16 * xs.length)→ER c' env' a'.tmps→a'.defers=a.defers→Q .normal a' c'.w) →
    wpOps P ops Q (List.range' k xs.length) a c.w
  | [],k,b,env,env',m,m',tr,a,c,hx,hr,hc,hm,hU,he,hK=>by
    simp only [runD,E9,Prod.mk.injEq] at hr
    obtain ⟨rfl,rfl,rfl⟩:=hr
    exact hK c a hc (St.refl c) hm (fun n hn=>.inl hn) he rfl
  | x :: xs, k, b, env, env',m,m',tr,a,c,hx,hr,hc,hm,hU,he,hK=>by
    simp only [runD] at hr
    split at hr
    · cases hr
    · rename_i e hs
      split at hr
      · cases hr
      · rename_i env1 m1 tr1 hr1
        simp only [E9,Prod.mk.injEq] at hr
        obtain ⟨rfl,rfl,rfl⟩:=hr
        obtain ⟨o,ho,hxo⟩:=hx 0 x rfl
        rw [I5,List.range'_succ,wpOps_cons]
        unfold wpOp
        rw [show ops[k]?=some o from ho]
        refine Ot (K:=wpOps P ops Q (List.range' (k+1) xs.length)) hO hxo hc hm he (fun n h1 _ hn=>by have:=hU n hn; omega) hs ?_
        intro c2 v k1 k2 k3 k4 k5
        refine Eu hO (fun i y hi=>by obtain ⟨o',h1,h2⟩:=hx (i+1) y (by simpa using hi); exact ⟨o',by rw [show k+1+i=k+(i+1) from by omega]; exact h1,h2⟩) hr1 k1 (k3.trans (U5 _ _).symm)
          (fun n hn => by rcases k4 n hn with q | q; · omega
                          · have:=hU n q; omega) (Jm (he.mono k2) k5) ?_
        intro c3 a3 j1 j2 j3 j4 j5 j6
        refine hK c3 a3 j1 (k2.trans j2) j3 (fun n hn=>?_) j5 (j6.trans (by cases x.dst <;> rfl))
        rw [I5]
        rcases j4 n hn with q | q
        · rcases k4 n q with q | q
          · exact .inr ⟨q.1,by omega⟩
          · exact .inl q
        · exact .inr ⟨by omega,by omega⟩

def AWP (P:Program) (n b0:Nat) (cd:Code) (K:KX) (env:List AV) (m:AM) (b:Nat):Prop :=
  ∀ (c0 c:Ctx) (a:Act) (Q:Exit→Act→World→Prop),(∀ n,c0.U n→n<b0)→Gd c→St c0 c→c.m=m.get→(∀ n,c.U n→c0.U n∨b0≤n∧n<b)→ER c env a.tmps→a.tmps.size=n→a.defers=[] →
    (∀ e env' m' b' c' a',K e env' m' b'→b0≤b'→Gd c'→St c0 c'→c'.m=m'.get→(∀ n,c'.U n→c0.U n∨b0≤n∧n<b')→ER c' env' a'.tmps→a'.tmps.size=n→a'.defers=[]→Q e.to a' c'.w)→cd.wp P Q a c.w

theorem yO {n b0:Nat} {id:Nat} {ops:Array Oper} {draws:Bool} {un:List (Nat×Nat)} {xs:List AO} (hmix:P.follows .mixedOrders=true) (hx:Mk P ops ops.toList=some xs) (hst:draws=true→nX xs un=true∧Nq n xs=true)
    {K:KX} {env:List AV} {m:AM} {b:Nat} {r:List AV×AM×List Ef} (hb:b0≤b) (hr:RunR P xs b env m r) (hdyn:draws=true→dynOk un r.2.2=true) (hk:K .normal r.1 r.2.1 (b+16 * xs.length)):AWP P n b0 (.region id ops draws) K env m b:=by
  intro c0 c a Q h0 hc hs hm hU he hn hd hK
  obtain ⟨O,o1,o2,o3⟩:=hr.orc
  have hU':∀ n,c.U n→n<b:=fun n hn=>by
    rcases hU n hn with q | q
    · have:=h0 n q; omega
    · exact q.2
  have last:∀ c' a',Gd c'→St c c'→c'.m=r.2.1.get→(∀ n,c'.U n→c.U n∨b≤n∧n<b+16 * xs.length)→ER c' r.1 a'.tmps→a'.defers=a.defers→Q .normal a' c'.w:=by
    intro c' a' j1 j2 j3 j4 j5 j6
    refine hK .normal r.1 r.2.1 (b+16 * xs.length) c' a' hk (by omega) j1 (hs.trans j2) j3 (fun n hn=>?_) j5 ?_ (j6.trans hd)
    · rcases j4 n hn with q | q
      · rcases hU n q with q | q
        · exact .inl q
        · exact .inr ⟨q.1,by omega⟩
      · exact .inr ⟨by omega,q.2⟩
    · -- the number of slots stays
      have : ∀ {xs:List AO} {b:Nat} {env:List AV} {m:AM} {r:List AV×AM×List Ef},RunR P xs b env m r→r.1.length=env.length:=by
        intro xs
        induction xs with
        | nil=>intro b env m r h; rw [show r=_ from h]
        | cons o xs ih =>
          intro b env m r h
          obtain ⟨e,r',_,h2,rfl⟩:=h
          rw [ih h2,tA]
      rw [← j5.1,this hr,he.1,hn]
  obtain ⟨env',m',tr⟩:=r
  cases draws with
  | true=>exact Wn hmix o1 o2 hx (hst rfl).1 o3 (hdyn rfl) (by rw [he.1,hn]; exact (hst rfl).2) hc hm hU' he last
  | false =>
    refine wp_region ?_
    obtain ⟨h1,h2⟩:=He hx
    have hl:ops.size=xs.length:=by rw [← h1]; simp
    rw [List.range_eq_range',hl]
    refine Eu o1 (fun i x hi=>?_) o3 hc hm hU' he last
    have hio:i<ops.toList.length:=by rw [h1]; exact (F6.1 hi).1
    obtain ⟨y,y1,y2⟩:=h2 i _ (F9 hio)
    rw [hi] at y1
    obtain rfl:=E5 y1
    exact ⟨_,by rw [L8]; simp [← Array.getElem?_toList,F9 hio],y2⟩

theorem AWP.mono {n b0:Nat} {cd:Code} {K K':KX} {env:List AV} {m:AM} {b:Nat} (h:AWP P n b0 cd K env m b) (hk:∀ e env m b,b0≤b→K e env m b→K' e env m b):AWP P n b0 cd K' env m b :=
  fun c0 c a Q h0 hc hs hm hU he hn hd hK=>h c0 c a Q h0 hc hs hm hU he hn hd fun e env' m' b' c' a' k hb=>hK e env' m' b' c' a' (hk _ _ _ _ hb k) hb

theorem pU (hmix:P.follows .mixedOrders=true) {n b0:Nat}:∀ {cd:Code} {ac:ACode},lV P n cd=some ac→∀ {K:KX} {env:List AV} {m:AM} {b:Nat},b0≤b→vc P b0 ac K env m b→AWP P n b0 cd K env m b:=by
  intro cd
  induction cd with
  | skip =>
    intro ac h K env m b hb hv c0 c a Q h0 hc hs hm hU he hn hd hK
    obtain rfl:=E5 h
    exact wp_skip (hK .normal env m b c a hv hb hc hs hm hU he hn hd)
  | ret =>
    intro ac h K env m b hb hv c0 c a Q h0 hc hs hm hU he hn hd hK
    obtain rfl:=E5 h
    exact wp_ret (hK .ret env m b c a hv hb hc hs hm hU he hn hd)
  | exit i =>
    intro ac h K env m b hb hv c0 c a Q h0 hc hs hm hU he hn hd hK
    obtain rfl:=E5 h
    exact wp_exit (hK (.exit i) env m b c a hv hb hc hs hm hU he hn hd)
  | seq x y ihx ihy =>
    intro ac h K env m b hb hv c0 c a Q h0 hc hs hm hU he hn hd hK
    simp only [lV] at h
    split at h
    · rename_i x' y' hx hy
      obtain rfl:=E5 h
      refine wp_seq (ihx hx hb hv c0 c a _ h0 hc hs hm hU he hn hd ?_)
      intro e env' m' b' c' a' k hb' j1 j2 j3 j4 j5 j6 j7
      cases e with
      | normal=>exact ihy hy hb' k c0 c' a' Q h0 j1 j2 j3 j4 j5 j6 j7 hK
      | exit i=>exact hK (.exit i) env' m' b' c' a' k hb' j1 j2 j3 j4 j5 j6 j7
      | ret=>exact hK .ret env' m' b' c' a' k hb' j1 j2 j3 j4 j5 j6 j7
    · cases h
  | block i x ih =>
    intro ac h K env m b hb hv c0 c a Q h0 hc hs hm hU he hn hd hK
    simp only [lV,E7] at h
    obtain ⟨x',hx,rfl⟩:=h
    refine wp_block (ih hx hb hv c0 c a _ h0 hc hs hm hU he hn hd ?_)
    intro e env' m' b' c' a' k hb' j1 j2 j3 j4 j5 j6 j7
    cases e with
    | normal=>exact hK .normal env' m' b' c' a' k hb' j1 j2 j3 j4 j5 j6 j7
    | exit i' =>
      simp only [Ex.to,Exit.inBlock]
      simp only [rT] at k
      split at k
      · rename_i hi; rw [if_pos hi]; exact hK .normal env' m' b' c' a' k hb' j1 j2 j3 j4 j5 j6 j7
      · rename_i hi; rw [if_neg hi]; exact hK (.exit i') env' m' b' c' a' k hb' j1 j2 j3 j4 j5 j6 j7
    | ret=>exact hK .ret env' m' b' c' a' k hb' j1 j2 j3 j4 j5 j6 j7
  | cond q x y ihx ihy =>
    intro ac h K env m b hb hv c0 c a Q h0 hc hs hm hU he hn hd hK
    simp only [lV] at h
    split at h
    · rename_i q' x' y' hq hx hy
      obtain rfl:=E5 h
      simp only [vc] at hv
      have hr:=bX hq he
      unfold Eb at hv
      split at hv
      · rename_i t hqt
        rw [hqt] at hr
        generalize hev:a.eval q=v at hr
        cases hr
        refine wp_cond hev ?_
        cases t with
        | true=>exact ihx hx hb hv c0 c a Q h0 hc hs hm hU he hn hd hK
        | false=>exact ihy hy hb hv c0 c a Q h0 hc hs hm hU he hn hd hK
      · exact hv.elim
    · cases h
  | loop x ih =>
    intro ac h K env m b hb hv c0 c a Q h0 hc hs hm hU he hn hd hK
    simp only [lV,E7] at h
    obtain ⟨x',hx,rfl⟩:=h
    obtain ⟨I,⟨n0,env1,m1,b1,hsub,hb1,hI0⟩,hround⟩:=hv
    obtain ⟨c1,w1,g1,s1,mm1,u1,e1⟩:=hsub c0 c a.tmps h0 hc hs hm hU he
    -- the loop's state: which of them is there
    let J:=fun (k:Nat) (a':Act) (w':World)=>∃ env' m' b' c',c'.w=w'∧b0≤b'∧I k env' m' b'∧Gd c'∧St c0 c'∧c'.m=m'.get∧(∀ n,c'.U n→c0.U n∨b0≤n∧n<b')∧ER c' env' a'.tmps∧a'.tmps.size=n∧a'.defers=[]
    intro fr k cs
    have key : ∀ k0:Nat,∀ (a':Act) (w':World),J k0 a' w'→∃ e a₂ w₂,Q e a₂ w₂∧Arrives P (lone (fr.at a' (.code x :: .inLoop x :: k)) cs w') fr k cs e a₂ w₂:=by
      intro k0
      induction k0 using Nat.strongRecOn with
      | _ k0 ihk =>
        intro a' w' hJ
        obtain ⟨env',m',b',c',rfl,q0,q1,q2,q3,q4,q5,q6,q7,q8⟩:=hJ
        obtain ⟨e,a₁,w₁,hq,harr⟩:=ih hx q0 (hround k0 env' m' b' q0 q1) c0 c' a' (Exit.then (fun a2 w2=>∃ k1,k1<k0∧J k1 a2 w2) Q) h0 q2 q3 q4 q5 q6 q7 q8 (by
          intro e env2 m2 b2 c2 a2 kk hb2 j1 j2 j3 j4 j5 j6 j7
          cases e with
          | normal =>
            obtain ⟨k1,env3,m3,b3,hk1,hsub3,hb3,hI3⟩:=kk
            obtain ⟨c3,w3,g3,s3,mm3,u3,e3⟩:=hsub3 c0 c2 a2.tmps h0 j1 j2 j3 j4 j5
            exact ⟨k1,hk1,env3,m3,b3,c3,w3,hb3,hI3,g3,s3,mm3,u3,e3,j6,j7⟩
          | exit i=>exact hK (.exit i) env2 m2 b2 c2 a2 kk hb2 j1 j2 j3 j4 j5 j6 j7
          | ret=>exact hK .ret env2 m2 b2 c2 a2 kk hb2 j1 j2 j3 j4 j5 j6 j7) fr (.inLoop x :: k) cs
        cases e with
        | normal =>
          obtain ⟨k1,hk1,hJ1⟩:=hq
          obtain ⟨e₂,a₂,w₂,hq₂,harr₂⟩:=ihk k1 hk1 a₁ w₁ hJ1
          exact ⟨e₂,a₂,w₂,hq₂,.of_steps (Steps.trans harr (.one step_inLoop)) harr₂⟩
        | exit id=>exact ⟨_,a₁,w₁,hq,.pass (x:=.inLoop x) rfl (fun _ _=>.inl (by simp)) harr⟩
        | goto l=>exact ⟨_,a₁,w₁,hq,.pass (x:=.inLoop x) rfl (fun _ _=>.inl (by simp)) harr⟩
        | ret=>exact ⟨_,a₁,w₁,hq,.pass (x:=.inLoop x) rfl (fun _ _=>.inl (by simp)) harr⟩
        | panic ch=>exact ⟨_,a₁,w₁,hq,.pass (x:=.inLoop x) rfl (fun _ _=>.inl (by simp)) harr⟩
        | outgrown=>exact ⟨_,a₁,w₁,hq,.pass (x:=.inLoop x) rfl (fun _ _=>.inl (by simp)) harr⟩
    obtain ⟨e,a',w',hq,harr⟩:=key n0 a c.w ⟨env1,m1,b1,c1,w1,hb1,hI0,g1,s1,mm1,u1,e1,hn,hd⟩
    exact ⟨e,a',w',hq,.of_steps (.one step_loop) harr⟩
  | region id ops draws =>
    intro ac h K env m b hb hv
    simp only [lV] at h
    split at h
    · cases h
    · rename_i xs hx
      split at h
      · rename_i hdr
        split at h
        · rename_i hst
          simp only [D9] at hst
          obtain rfl:=E5 h
          revert hv hst
          cases hun:MF xs with
          | nil =>
            intro hst hv
            simp only [vc,Da] at hv
            obtain ⟨r,r1,r2⟩:=Hc hv
            exact yO (un:=[]) hmix hx (fun _=>hst) hb r1 (fun _=>rfl) r2
          | cons u us =>
            intro hst hv
            simp only [vc,Kb] at hv
            obtain ⟨r,r1,r3,r2⟩:=Po hv
            exact yO (un:=u :: us) hmix hx (fun _=>hst) hb r1 (fun _=>by simpa using r3) r2
        · cases h
      · rename_i hdr
        obtain rfl:=E5 h
        simp only [vc,Da] at hv
        obtain ⟨r,r1,r2⟩:=Hc hv
        exact yO (un:=[]) hmix hx (fun e=>absurd e hdr) hb r1 (fun e=>absurd e hdr) r2
  | _=>intro ac h; simp [lV] at h
end

structure Tr where
  p:Nat→Nat→Nat→AV
  s:Nat→Nat→AV
  mp:Nat→AV
mutual
def AV.tr (T:Tr):AV→AV
  | .ptr g r o=>T.p g r o
  | .slm g l=>T.s g l
  | .mapm g=>T.mp g
  | .pv cs=>.pv (trs T cs)
  | .slv sz rows=>.slv sz (trss T rows)
  | .fn f a b=>.fn f (trs T a) (trs T b)
  | .iface t x=>.iface t (x.tr T)
  | .agg cs=>.agg (trs T cs)
  | .tup cs=>.tup (trs T cs)
  | .int k n=>.int k n
  | .bool b=>.bool b
  | .str s=>.str s
  | .nilp=>.nilp
  | .slnil=>.slnil
  | .sle sz=>.sle sz
  | .mapnil=>.mapnil
  | .fnnil=>.fnnil
  | .ifnil=>.ifnil
  | .und=>.und
def trs (T:Tr):List AV→List AV
  | []=>[]
  | x :: l=>x.tr T :: trs T l
def trss (T:Tr):List (List AV)→List (List AV)
  | []=>[]
  | x :: l=>trs T x :: trss T l
end
mutual
/-- No names in it. -/
def AV.pure:AV→Bool
  | .ptr _ _ _ | .slm _ _ | .mapm _=>false
  | .pv cs=>pures cs
  | .slv _ rows=>puress rows
  | .fn _ a b=>pures a && pures b
  | .iface _ x=>x.pure
  | .agg cs=>pures cs
  | .tup cs=>pures cs
  | .int _ _ | .bool _ | .str _ | .nilp | .slnil | .sle _ | .mapnil | .fnnil | .ifnil | .und=>true
def pures:List AV→Bool
  | []=>true
  | x :: l=>x.pure && pures l
def puress:List (List AV)→Bool
  | []=>true
  | x :: l=>pures x && puress l
end
mutual
theorem AV.tr_pure (T:Tr):∀ x:AV,x.pure=true→x.tr T=x
  | .ptr _ _ _,h | .slm _ _,h | .mapm _,h=>by simp [AV.pure] at h
  | .pv cs,h=>by simp only [AV.pure] at h; simp only [AV.tr,dQ T cs h]
  | .slv _ rows,h=>by simp only [AV.pure] at h; simp only [AV.tr,pR T rows h]
  | .fn _ a b,h=>by simp only [AV.pure,D9] at h; simp only [AV.tr,dQ T a h.1,dQ T b h.2]
  | .iface _ x,h=>by simp only [AV.pure] at h; simp only [AV.tr,AV.tr_pure T x h]
  | .agg cs,h=>by simp only [AV.pure] at h; simp only [AV.tr,dQ T cs h]
  | .tup cs,h=>by simp only [AV.pure] at h; simp only [AV.tr,dQ T cs h]
  | .int _ _,_ | .bool _,_ | .str _,_ | .nilp,_ | .slnil,_ | .sle _,_ | .mapnil,_ | .fnnil,_ | .ifnil,_ | .und,_=>rfl
theorem dQ (T:Tr):∀ l:List AV,pures l=true→trs T l=l
  | [],_=>rfl
  | x :: l,h=>by simp only [pures,D9] at h; simp only [trs,AV.tr_pure T x h.1,dQ T l h.2]
theorem pR (T:Tr):∀ l:List (List AV),puress l=true→trss T l=l
  | [],_=>rfl
  | x :: l,h=>by simp only [puress,D9] at h; simp only [trss,dQ T x h.1,pR T l h.2]
end
theorem mL (T:Tr):∀ l:List AV,trs T l=l.map (AV.tr T)
  | []=>rfl
  | x :: l=>by simp [trs,mL T l]
theorem pQ (T:Tr):∀ l:List (List AV),trss T l=l.map (trs T)
  | []=>rfl
  | x :: l=>by simp [trss,pQ T l]
theorem tE {T:Tr} {l:List AV} {i:Nat} {y:AV} (h:(trs T l)[i]?=some y):∃ x,l[i]?=some x∧y=x.tr T:=by
  rw [mL,P3,E7] at h
  obtain ⟨x,h1,h2⟩:=h
  exact ⟨x,h1,h2.symm⟩
theorem Oy {T:Tr} {l:List (List AV)} {i:Nat} {y:List AV} (h:(trss T l)[i]?=some y):∃ x,l[i]?=some x∧y=trs T x:=by
  rw [pQ,P3,E7] at h
  obtain ⟨x,h1,h2⟩:=h
  exact ⟨x,h1,h2.symm⟩

structure TrOk (T:Tr) (c c':Ctx):Prop where
  p:∀ g r o v,VR c (.ptr g r o) v→VR c' (T.p g r o) v
  s:∀ g l v,VR c (.slm g l) v→VR c' (T.s g l) v
  mp:∀ g v,VR c (.mapm g) v→VR c' (T.mp g) v
  p1:∀ g r o,(T.p g r o).one=true
  s1:∀ g l,(T.s g l).one=true
  mp1:∀ g,(T.mp g).one=true
  nB:∀ b,b<c.w.heap.size→¬ c.B b→¬ c'.B b
  size:c.w.heap.size≤c'.w.heap.size
  cell:∀ (a:Addr),a.block<c.w.heap.size→¬ c.B a.block→∀ n,c'.w.cell? (a.add n)=c.w.cell? (a.add n)

theorem TrOk.one {T:Tr} {c c':Ctx} (h:TrOk T c c') {x:AV} (hx:x.one=true):(x.tr T).one=true:=by
  cases x <;> first | rfl | exact h.p1 _ _ _ | exact h.s1 _ _ | exact h.mp1 _ | exact hx

theorem VR.tr {T:Tr} {c c':Ctx} (h:TrOk T c c') {x:AV} {v:Value} (hx:VR c x v):VR c' (x.tr T) v:=by
  induction hx with
  | int k n hr=>exact .int k n hr
  | bool b=>exact .bool b
  | str s hs=>exact .str s hs
  | nilp=>exact .nilp
  | ptr g row off a hU hL=>exact h.p _ _ _ _ (.ptr g row off a hU hL)
  | pv cells a us hB hb hc h1 hv ih =>
    refine .pv _ a us (h.nB _ hb hB) (H5 hb h.size) (fun i y hi=>?_) (fun i y hi=>?_) (fun i y hi=>?_) <;> obtain ⟨x,hx,rfl⟩:=tE hi
    · exact (h.cell a hb hB i).trans (hc i x hx)
    · exact h.one (h1 i x hx)
    · exact ih i x hx
  | slnil=>exact .slnil
  | sle sz a cap hc=>exact .sle sz a cap hc
  | slv0 sz=>exact .slv0 sz
  | slve sz a cap hc=>exact .slve sz a cap hc
  | slvs sz rows a cap us h0 hl hm hB hb hsz hc h1 hv ih =>
    have hlen:(trss T rows).length=rows.length:=by rw [pQ]; simp
    simp only [AV.tr]
    rw [← hlen]
    refine .slvs sz _ a cap us (fun e=>h0 (by rw [pQ] at e; simpa using e)) (by rw [hlen]; exact hl) hm (h.nB _ hb hB) (H5 hb h.size) (fun i r hi=>?_) (fun i r j y hi hj=>?_) (fun i r j y hi hj=>?_) (fun i r j y hi hj=>?_) <;>
      obtain ⟨r0,hr,rfl⟩:=Oy hi
    · rw [mL]; simpa using hsz i r0 hr
    all_goals obtain ⟨x,hx,rfl⟩:=tE hj
    · exact (h.cell a hb hB _).trans (hc i r0 j x hr hx)
    · exact h.one (h1 i r0 j x hr hx)
    · exact ih i r0 j x hr hx
  | slm g len a n cap hU hL=>exact h.s _ _ _ (.slm g len a n cap hU hL)
  | mapnil=>exact .mapnil
  | mapm g r hU hL=>exact h.mp _ _ (.mapm g r hU hL)
  | fn f fs cs vs us h1 h2 h3 h4 ih1 ih2 =>
    refine .fn f _ _ vs us (by rw [mL]; simpa using h1) (by rw [mL]; simpa using h2) (fun i y hi=>?_) (fun i y hi=>?_) <;> obtain ⟨x,hx,rfl⟩:=tE hi
    · exact ih1 i x hx
    · exact ih2 i x hx
  | fnnil=>exact .fnnil
  | iface t x v _ ih=>exact .iface t _ v ih
  | ifnil=>exact .ifnil
  | agg cells vs h1 h2 _ ih =>
    refine .agg _ vs (by rw [mL]; simpa using h1) (fun i y hi=>?_) (fun i y hi=>?_) <;> obtain ⟨x,hx,rfl⟩:=tE hi
    · exact h.one (h2 i x hx)
    · exact ih i x hx
  | tup cells vs h1 _ ih =>
    refine .tup _ vs (by rw [mL]; simpa using h1) (fun i y hi=>?_)
    obtain ⟨x,hx,rfl⟩:=tE hi
    exact ih i x hx
  | und v=>exact .und v

theorem ER.tr {T:Tr} {c c':Ctx} (h:TrOk T c c') {env:List AV} {ts:Array Value} (he:ER c env ts):ER c' (trs T env) ts :=
  ⟨by rw [mL]; simpa using he.1,fun i y hi=>by obtain ⟨x,hx,rfl⟩:=tE hi; exact (he.2 i x hx).tr h⟩

def Blk.tr (T:Tr):Blk→Blk
  | .rows t sz rs=>.rows t sz (trss T rs)
  | .mp es=>.mp (es.map fun p=>(p.1.tr T,p.2.tr T))
theorem BlkOk.tr {T:Tr} {c c':Ctx} (h:TrOk T c c') {ni:NI} {o:Obj} {b:Blk} (hb:BlkOk c ni o b):BlkOk c' ni o (b.tr T):=by
  cases b with
  | rows t sz rs =>
    obtain ⟨cs,h1,h2,h3,h4,h5,h7⟩:=hb
    refine ⟨cs,h1,h2,h3,by rw [pQ]; simpa using h4,h5,fun i r hi=>?_⟩
    obtain ⟨r0,hr,rfl⟩:=Oy hi
    refine ⟨by rw [mL]; simpa using (h7 i r0 hr).1,fun j y hj=>?_⟩
    obtain ⟨x,hx,rfl⟩:=tE hj
    obtain ⟨k1,k2⟩:=(h7 i r0 hr).2 j x hx
    exact ⟨h.one k1,k2.tr h⟩
  | mp es =>
    obtain ⟨en,clk,h1,h2,h3⟩:=hb
    refine ⟨en,clk,h1,⟨by simpa using h2.1,h2.2⟩,fun i k v hi=>?_⟩
    rw [P3,E7] at hi
    obtain ⟨⟨k0,v0⟩,hi,he⟩:=hi
    simp only [Prod.mk.injEq] at he
    obtain ⟨rfl,rfl⟩:=he
    obtain ⟨e,h4,h5,h6⟩:=h3 i k0 v0 hi
    exact ⟨e,h4,h5.tr h,h6.tr h⟩

theorem Bq {c c':Ctx} (hc:Gd c) {g r o:Nat} {t sz:Nat} {rs:List (List AV)} {row:List AV} {v:Value} (hm:c.m g=some (.rows t sz rs)) (hr:rs[r]?=some row) (hw:∀ a:Addr,a.block=(c.ρ g).blk→c'.w.cell? a=c.w.cell? a) (hsz:c.w.heap.size≤c'.w.heap.size)
    (hB:¬ c'.B (c.ρ g).blk) (hv:∀ x,x∈row→∀ u,VR c x u→VR c' x u) (h:VR c (.ptr g r o) v):VR c' (.pv (row.drop o)) v:=by
  have hl:c.L g:=by simp [Ctx.L,hm]
  cases h with
  | ptr _ _ _ a hU hL =>
    have:=hL hl
    subst this
    have hca:=hc.cellsAt hm hr
    obtain ⟨cs,h1,h2,h3,h4,h5,h7⟩:=hc.rows g t sz rs hm
    rw [h2]
    refine .pv _ _ (fun i=>cs.getD (r * sz+(o+i)) dB) hB (H5 (hc.lt g hl) hsz) (fun i x hi=>?_) (fun i x hi=>?_) (fun i x hi=>?_) <;> rw [List.getElem?_drop] at hi
    · rw [hw _ (by rw [fD]),jS]
      obtain ⟨h8,h9⟩:=h7 r row hr
      have hlt:o+i<sz:=by rw [← h8]; exact (F6.1 hi).1
      have hrl:r<rs.length:=(F6.1 hr).1
      have:r * sz+(o+i)<cs.size:=by
        rw [h3]
        have h10:(r+1) * sz≤(c.ρ g).cap * sz:=I8 sz (by omega)
        rw [O1] at h10
        omega
      rw [show r * sz+o+i=r * sz+(o+i) from by omega]
      simp [World.cell?,h1,F0,this]
    · exact ((h7 r row hr).2 _ x hi).1
    · exact hv x (I7 hi) _ ((h7 r row hr).2 _ x hi).2

theorem Br {c c':Ctx} (hc:Gd c) {g len:Nat} {t sz:Nat} {rs:List (List AV)} {v:Value} (hm:c.m g=some (.rows t sz rs)) (hr:len≤rs.length) (hw:∀ a:Addr,a.block=(c.ρ g).blk→c'.w.cell? a=c.w.cell? a) (hsz:c.w.heap.size≤c'.w.heap.size)
    (hB:¬ c'.B (c.ρ g).blk) (hv:∀ r,r∈rs→∀ x,x∈r→∀ u,VR c x u→VR c' x u) (h:VR c (.slm g len) v):VR c' (.slv sz (rs.take len)) v:=by
  have hl:c.L g:=by simp [Ctx.L,hm]
  cases h with
  | slm _ _ a n cap hU hL =>
    obtain ⟨rfl,rfl,rfl⟩:=hL hl
    obtain ⟨cs,h1,h2,h3,h4,h5,h7⟩:=hc.rows g t sz rs hm
    by_cases h0:n=0
    · subst h0; exact .slve sz _ _ h5
    · have hlen:(rs.take n).length=n:=by simp; omega
      have key:=VR.slvs (c:=c') sz (rs.take n) ⟨(c.ρ g).blk,0,none⟩ (c.ρ g).cap (fun i j=>cs.getD (i * sz+j) dB) (fun e=>h0 (by rw [e] at hlen; simpa using hlen.symm)) (by rw [hlen]; omega) h5 hB (H5 (hc.lt g hl) hsz)
        (fun i r hi=>?_) (fun i r j x hi hj=>?_) (fun i r j x hi hj=>?_) (fun i r j x hi hj=>?_)
      · rw [hlen] at key; exact key
      all_goals
        have hil:i<n:=by rw [← hlen]; exact (F6.1 hi).1
        rw [List.getElem?_take_of_lt hil] at hi
        obtain ⟨h8,h9⟩:=h7 i r hi
      · exact h8
      · rw [hw _ (by rw [fD]),jS]
        have hlt:j<sz:=by rw [← h8]; exact (F6.1 hj).1
        have hrl:i<rs.length:=(F6.1 hi).1
        have:i * sz+j<cs.size:=by
          rw [h3]
          have h10:(i+1) * sz≤(c.ρ g).cap * sz:=I8 sz (by omega)
          rw [O1] at h10
          omega
        rw [L8]
        simp [World.cell?,h1,F0,this]
      · exact (h9 j x hj).1
      · exact hv r (I7 hi) x (I7 hj) _ (h9 j x hj).2

def lk:List (Nat×Nat)→Nat→Option Nat
  | [],_=>none
  | (g,g') :: l,n=>if n=g then some g' else lk l n
def inv:List (Nat×Nat)→Nat→Nat
  | [],_=>0
  | (g,g') :: l,n=>if n=g' then g else inv l n
def nameT (b0 dead:Nat) (σ:List (Nat×Nat)) (n:Nat):Nat:=if n<b0 then n else (lk σ n).getD dead
def frzP (dead:Nat) (m:AM) (g r o:Nat):AV:=match m.get g with
  | some (.rows _ _ rs)=>match rs[r]? with
    | some row=>.pv (row.drop o)
    | none=>.ptr dead r o
  | _=>.ptr dead r o
def frzS (dead:Nat) (m:AM) (g l:Nat):AV:=match m.get g with
  | some (.rows _ sz rs)=>if l≤rs.length then .slv sz (rs.take l) else .slm dead l
  | _=>.slm dead l
def stT (b0 dead:Nat) (Z:List Nat) (σ:List (Nat×Nat)) (m:AM):Tr where
  p g r o:=if Z.contains g then frzP dead m g r o else .ptr (nameT b0 dead σ g) r o
  s g l:=if Z.contains g then frzS dead m g l else .slm (nameT b0 dead σ g) l
  mp g:=.mapm (if Z.contains g then dead else nameT b0 dead σ g)
def stM (b0 dead:Nat) (Z:List Nat) (σ:List (Nat×Nat)) (T:Tr):AM→AM
  | []=>[]
  | (g,b) :: l=>if Z.contains g then stM b0 dead Z σ T l else if g<b0∨(lk σ g).isSome then (nameT b0 dead σ g,b.tr T) :: stM b0 dead Z σ T l else stM b0 dead Z σ T l
def jG:Blk→Bool
  | .rows _ _ rs=>puress rs
  | .mp _=>false
def fS (m:AM) (Z:List Nat):Bool:=Z.all fun g=>match m.get g with
  | some b=>jG b
  | none=>true
def stOk (b0 dead:Nat) (Z:List Nat) (σ:List (Nat×Nat)) (m:AM):Bool :=
  decide (b0≤dead) && (σ.all fun p=>decide (b0≤p.1) && decide (b0≤p.2) && decide (p.2<dead)) && decide (σ.map (·.2)).Nodup && decide (m.map (·.1)).Nodup && (Z.all fun g=>decide (b0≤g))

theorem AM.mem_of_get:∀ {m:AM} {g:Nat} {b:Blk},m.get g=some b→(g,b)∈m
  | (k,b') :: l,g,b,h=>by
    simp only [J0] at h
    split at h
    · rename_i e; subst e; obtain rfl:=E5 h; exact J7 ..
    · exact H8 _ (AM.mem_of_get h)
theorem AM.get_of_mem:∀ {m:AM} {g:Nat} {b:Blk},(m.map (·.1)).Nodup→(g,b)∈m→m.get g=some b
  | (k,b') :: l,g,b,hn,h=>by
    simp only [N4,Q4] at hn
    simp only [J0]
    rcases N2.1 h with h | h
    · simp only [Prod.mk.injEq] at h
      rw [if_pos h.1,h.2]
    · have:g≠k:=fun e=>hn.1 (G5.2 ⟨(g,b),h,e⟩)
      rw [if_neg this]
      exact AM.get_of_mem hn.2 h
theorem sU:∀ {σ:List (Nat×Nat)} {n k:Nat},lk σ n=some k→(n,k)∈σ
  | (g,g') :: l,n,k,h=>by
    simp only [lk] at h
    split at h
    · rename_i e; subst e; obtain rfl:=E5 h; exact J7 ..
    · exact H8 _ (sU h)
theorem Ak:∀ {σ:List (Nat×Nat)} {n k:Nat},(σ.map (·.2)).Nodup→(n,k)∈σ→inv σ k=n
  | (g,g') :: l,n,k,hn,h=>by
    simp only [N4,Q4] at hn
    simp only [inv]
    rcases N2.1 h with h | h
    · simp only [Prod.mk.injEq] at h
      rw [if_pos h.2,h.1]
    · have:k≠g':=fun e=>hn.1 (G5.2 ⟨(n,k),h,e⟩)
      rw [if_neg this]
      exact Ak hn.2 h
theorem An {b0 dead:Nat} {Z:List Nat} {σ:List (Nat×Nat)} {T:Tr}:∀ {m:AM} {n:Nat} {b:Blk},(n,b)∈stM b0 dead Z σ T m →
    ∃ g b1,(g,b1)∈m∧Z.contains g=false∧(g<b0∨(lk σ g).isSome)∧n=nameT b0 dead σ g∧b=b1.tr T
  | (k, b') :: l,n,b,h=>by
    simp only [stM] at h
    split at h
    · obtain ⟨g,b1,h1,h2⟩:=An h
      exact ⟨g,b1,H8 _ h1,h2⟩
    · rename_i hz
      split at h
      · rename_i hk
        rcases N2.1 h with h | h
        · simp only [Prod.mk.injEq] at h
          exact ⟨k,b',J7 ..,by simpa using hz,hk,h.1,h.2⟩
        · obtain ⟨g,b1,h1,h2⟩:=An h
          exact ⟨g,b1,H8 _ h1,h2⟩
      · obtain ⟨g,b1,h1,h2⟩:=An h
        exact ⟨g,b1,H8 _ h1,h2⟩

theorem SubS.refl (b0:Nat) (env:List AV) (m:AM) (b:Nat):SubS b0 env m b env m b:=fun c0 c ts _ hc hs hm hU he=>⟨c,rfl,hc,hs,hm,hU,he⟩
theorem SubS.trans {b0:Nat} {env env' env'':List AV} {m m' m'':AM} {b b' b'':Nat} (h:SubS b0 env m b env' m' b') (k:SubS b0 env' m' b' env'' m'' b''):SubS b0 env m b env'' m'' b'':=fun c0 c ts h0 hc hs hm hU he=>by
  obtain ⟨c1,w1,g1,s1,m1,u1,e1⟩:=h c0 c ts h0 hc hs hm hU he
  obtain ⟨c2,w2,g2,s2,m2,u2,e2⟩:=k c0 c1 ts h0 g1 s1 m1 u1 e1
  exact ⟨c2,w2.trans w1,g2,s2,m2,u2,e2⟩

theorem SubS.step {b0 dead:Nat} {Z:List Nat} {σ:List (Nat×Nat)} {env:List AV} {m:AM} {b:Nat} (hok:stOk b0 dead Z σ m=true) (hz:fS m Z=true) :
    SubS b0 env m b (trs (stT b0 dead Z σ m) env) (stM b0 dead Z σ (stT b0 dead Z σ m) m) (dead+1):=by
  intro c0 c ts h0 hc hs hm hU he
  unfold stOk at hok
  simp only [D9,decide_eq_true_eq,G4] at hok
  obtain ⟨⟨⟨⟨k1,k2⟩,k3⟩,k4⟩,k5⟩:=hok
  let T:=stT b0 dead Z σ m
  let ρ':=fun n=>if n<b0 then c.ρ n else c.ρ (inv σ n)
  let c':Ctx:={ F:=c.F,ρ:=ρ',U:=fun n=>c0.U n∨b0≤n∧n<dead+1,m:=(stM b0 dead Z σ T m).get,w:=c.w }
  -- a name that stays
  have hname:∀ g,(g<b0∨(lk σ g).isSome)→ρ' (nameT b0 dead σ g)=c.ρ g∧(nameT b0 dead σ g<b0↔g<b0)∧nameT b0 dead σ g≠dead:=by
    intro g hg
    by_cases hb:g<b0
    · have:nameT b0 dead σ g=g:=by simp [nameT,hb]
      rw [this]
      exact ⟨by simp [ρ',hb],Iff.rfl,by omega⟩
    · obtain ⟨k,hk⟩:=G2.1 (hg.resolve_left hb)
      have hn:nameT b0 dead σ g=k:=by simp [nameT,hb,hk]
      have:=k2 _ (sU hk)
      simp only [] at this
      rw [hn]
      have hkb:¬ k<b0:=by omega
      exact ⟨by simp only [ρ',if_neg hkb]; rw [Ak k3 (sU hk)],by constructor <;> omega,by omega⟩
  have hnameU:∀ g,c.U g→(c0.U (nameT b0 dead σ g)∨b0≤nameT b0 dead σ g∧nameT b0 dead σ g<dead+1):=by
    intro g hg
    by_cases hb:g<b0
    · have:nameT b0 dead σ g=g:=by simp [nameT,hb]
      rw [this]
      rcases hU g hg with q | q
      · exact .inl q
      · omega
    · right
      simp only [nameT,if_neg hb]
      cases hk:lk σ g with
      | none=>simp; omega
      | some k =>
        have:=k2 _ (sU hk)
        simp only [] at this
        simp; omega
  -- who lives
  have hlive:∀ n B,c'.m n=some B→∃ g B1,c.m g=some B1∧Z.contains g=false∧(g<b0∨(lk σ g).isSome)∧n=nameT b0 dead σ g∧B=B1.tr T:=by
    intro n B hn
    obtain ⟨g,B1,h1,h2,h3,h4,h5⟩:=An (AM.mem_of_get hn)
    exact ⟨g,B1,by rw [hm]; exact AM.get_of_mem k4 h1,h2,h3,h4,h5⟩
  have hliveL:∀ n,c'.L n→∃ g,c.L g∧Z.contains g=false∧(g<b0∨(lk σ g).isSome)∧n=nameT b0 dead σ g∧ρ' n=c.ρ g:=by
    intro n hn
    obtain ⟨B,hB⟩:=G2.1 hn
    obtain ⟨g,B1,h1,h2,h3,h4,h5⟩:=hlive n B hB
    exact ⟨g,by simp [Ctx.L,h1],h2,h3,h4,by rw [h4]; exact (hname g h3).1⟩
  have hinj:∀ g g',(g<b0∨(lk σ g).isSome)→nameT b0 dead σ g'=nameT b0 dead σ g→g'=g:=by
    intro g g' hg he
    obtain ⟨p1,p2,p3⟩:=hname g hg
    by_cases hb:g<b0
    · have h1:nameT b0 dead σ g=g:=by simp [nameT,hb]
      by_cases hb':g'<b0
      · have h2:nameT b0 dead σ g'=g':=by simp [nameT,hb']
        omega
      · exfalso
        simp only [nameT,if_neg hb'] at he
        cases hk:lk σ g' with
        | none=>rw [hk] at he; simp at he; simp [nameT,hb] at he; omega
        | some k =>
          have:=k2 _ (sU hk)
          rw [hk] at he; simp at he; simp [nameT,hb] at he; simp only [] at this; omega
    · obtain ⟨k,hk⟩:=G2.1 (hg.resolve_left hb)
      have hn:nameT b0 dead σ g=k:=by simp [nameT,hb,hk]
      have hkk:=k2 _ (sU hk)
      simp only [] at hkk
      by_cases hb':g'<b0
      · have h2:nameT b0 dead σ g'=g':=by simp [nameT,hb']
        omega
      · cases hk':lk σ g' with
        | none =>
          have hn':nameT b0 dead σ g'=dead:=by simp [nameT,hb',hk']
          omega
        | some k' =>
          have hn':nameT b0 dead σ g'=k':=by simp [nameT,hb',hk']
          have e:k'=k:=by omega
          subst e
          rw [← Ak k3 (sU hk),← Ak k3 (sU hk')]
  have hdeadL:¬ c'.L dead:=by
    intro hl
    obtain ⟨g,_,_,h3,h4,_⟩:=hliveL dead hl
    exact (hname g h3).2.2 h4.symm
  have hdeadU:c'.U dead:=.inr ⟨k1,by omega⟩
  have hown:∀ n,c'.own n→c.own n:=by
    rintro n ⟨g',h1,h2⟩
    obtain ⟨g,h3,_,_,_,h5⟩:=hliveL g' h1
    exact ⟨g,h3,by rw [← h5]; exact h2⟩
  have hnB:∀ n,¬ c.B n→¬ c'.B n:=by
    rintro n hn (h1 | h1)
    · exact hn (.inl h1)
    · exact hn (.inr (hown n h1))
  have hzB:∀ g,Z.contains g=true→c.L g→¬ c'.B (c.ρ g).blk:=by
    rintro g hg hl (h1 | ⟨n,h1,h2⟩)
    · exact hc.notF g hl h1
    · obtain ⟨g2,h3,h4,_,_,h5⟩:=hliveL n h1
      have:(c.ρ g2).blk=(c.ρ g).blk:=by rw [← h5]; exact h2
      have:=hc.inj g2 g h3 hl this
      subst this
      rw [hg] at h4; cases h4
  -- values that have no names
  have hpure:∀ x u,AV.pure x=true→VR c x u→VR c' x u:=by
    intro x u hx hv
    let T0:Tr:=⟨fun _ _ _=>.nilp,fun _ _=>.slnil,fun _=>.mapnil⟩
    have : ∀ x u,VR c x u→AV.pure x=true→VR c' x u:=by
      intro x u hv
      have cell:∀ (l:List AV) (i:Nat) (y:AV),pures l=true→l[i]?=some y→y.pure=true:=by
        intro l
        induction l with
        | nil=>intro i y _ h; simp at h
        | cons z l ih =>
          intro i y h hi
          simp only [pures,D9] at h
          cases i with
          | zero=>simp at hi; subst hi; exact h.1
          | succ i=>exact ih i y h.2 (by simpa using hi)
      have cells:∀ (l:List (List AV)) (i:Nat) (y:List AV),puress l=true→l[i]?=some y→pures y=true:=by
        intro l
        induction l with
        | nil=>intro i y _ h; simp at h
        | cons z l ih =>
          intro i y h hi
          simp only [puress,D9] at h
          cases i with
          | zero=>simp at hi; subst hi; exact h.1
          | succ i=>exact ih i y h.2 (by simpa using hi)
      induction hv with
      | int k n hr=>intro _; exact .int k n hr
      | bool b=>intro _; exact .bool b
      | str s hs=>intro _; exact .str s hs
      | nilp=>intro _; exact .nilp
      | ptr g row off a hU hL=>intro h; simp [AV.pure] at h
      | pv cs a us hB hb hcc h1 hv ih=>intro h; simp only [AV.pure] at h; exact .pv cs a us (hnB _ hB) hb hcc h1 (fun i x hi=>ih i x hi (cell _ _ _ h hi))
      | slnil=>intro _; exact .slnil
      | sle sz a cap hc=>intro _; exact .sle sz a cap hc
      | slv0 sz=>intro _; exact .slv0 sz
      | slve sz a cap hc=>intro _; exact .slve sz a cap hc
      | slvs sz rows a cap us h0 hl hm hB hb hsz hcc h1 hv ih=>intro h; simp only [AV.pure] at h; exact .slvs sz rows a cap us h0 hl hm (hnB _ hB) hb hsz hcc h1 (fun i r j x hi hj=>ih i r j x hi hj (cell _ _ _ (cells _ _ _ h hi) hj))
      | slm g len a n cap hU hL=>intro h; simp [AV.pure] at h
      | mapnil=>intro _; exact .mapnil
      | mapm g r hU hL=>intro h; simp [AV.pure] at h
      | fn f fs cs vs us h1 h2 h3 h4 ih1 ih2=>intro h; simp only [AV.pure,D9] at h; exact .fn f fs cs vs us h1 h2 (fun i x hi=>ih1 i x hi (cell _ _ _ h.1 hi)) (fun i x hi=>ih2 i x hi (cell _ _ _ h.2 hi))
      | fnnil=>intro _; exact .fnnil
      | iface t x v _ ih=>intro h; simp only [AV.pure] at h; exact .iface t x v (ih h)
      | ifnil=>intro _; exact .ifnil
      | agg cs vs h1 h2 _ ih=>intro h; simp only [AV.pure] at h; exact .agg cs vs h1 h2 (fun i x hi=>ih i x hi (cell _ _ _ h hi))
      | tup cs vs h1 _ ih=>intro h; simp only [AV.pure] at h; exact .tup cs vs h1 (fun i x hi=>ih i x hi (cell _ _ _ h hi))
      | und v=>intro _; exact .und v
    exact this x u hv hx
  have hpc:∀ (l:List AV) (y:AV),pures l=true→y∈l→y.pure=true:=by
    intro l
    induction l with
    | nil=>intro y _ h; cases h
    | cons z l ih =>
      intro y h hi
      simp only [pures,D9] at h
      rcases N2.1 hi with rfl | hi
      · exact h.1
      · exact ih y h.2 hi
  have hpcs:∀ (l:List (List AV)) (y:List AV),puress l=true→y∈l→pures y=true:=by
    intro l
    induction l with
    | nil=>intro y _ h; cases h
    | cons z l ih =>
      intro y h hi
      simp only [puress,D9] at h
      rcases N2.1 hi with rfl | hi
      · exact h.1
      · exact ih y h.2 hi
  have hzp:∀ g t sz rs,Z.contains g=true→m.get g=some (.rows t sz rs)→puress rs=true:=by
    intro g t sz rs hg hmg
    have:=G4.1 hz g (by simpa using hg)
    rw [hmg] at this
    exact this
  have hT : TrOk T c c':=by
    refine ⟨fun g r o v hv=>?_,fun g l v hv=>?_,fun g v hv=>?_,fun g r o=>?_,fun g l=>?_,fun g=>rfl,fun b _ hb=>hnB b hb,G1 _,fun _ _ _ _=>rfl⟩
    · show VR c' (if Z.contains g then frzP dead m g r o else .ptr (nameT b0 dead σ g) r o) v
      split
      · rename_i hg
        unfold frzP
        have dd:VR c' (.ptr dead r o) v:=by
          cases hv with
          | ptr _ _ _ a hU hL=>exact .ptr _ _ _ a hdeadU (fun h=>absurd h hdeadL)
        split
        · rename_i t sz rs hmg
          split
          · rename_i row hrow
            have hmc:c.m g=some (.rows t sz rs):=by rw [hm]; exact hmg
            exact Bq hc hmc hrow (fun _ _=>rfl) (G1 _) (hzB g hg (by simp [Ctx.L,hmc])) (fun x hx u hu=>hpure x u (hpc _ _ (hpcs _ _ (hzp g t sz rs hg hmg) (I7 hrow)) hx) hu) hv
          · exact dd
        · exact dd
      · cases hv with
        | ptr _ _ _ a hU' hL =>
          refine .ptr _ _ _ a (hnameU g hU') fun hl=>?_
          obtain ⟨g2,h1,h2,h3,h4,h5⟩:=hliveL _ hl
          have:=hinj g2 g h3 h4
          subst this
          show a=some ⟨(ρ' _).blk,r * (ρ' _).sz+o,none⟩
          rw [h5]
          exact hL h1
    · show VR c' (if Z.contains g then frzS dead m g l else .slm (nameT b0 dead σ g) l) v
      split
      · rename_i hg
        unfold frzS
        have dd:VR c' (.slm dead l) v:=by
          cases hv with
          | slm _ _ a n cap hU hL=>exact .slm _ _ a n cap hdeadU (fun h=>absurd h hdeadL)
        split
        · rename_i t sz rs hmg
          split
          · rename_i hl
            have hmc:c.m g=some (.rows t sz rs):=by rw [hm]; exact hmg
            exact Br hc hmc hl (fun _ _=>rfl) (G1 _) (hzB g hg (by simp [Ctx.L,hmc])) (fun r hr x hx u hu=>hpure x u (hpc _ _ (hpcs _ _ (hzp g t sz rs hg hmg) hr) hx) hu) hv
          · exact dd
        · exact dd
      · cases hv with
        | slm _ _ a n cap hU' hL =>
          refine .slm _ _ a n cap (hnameU g hU') fun hl=>?_
          obtain ⟨g2,h1,h2,h3,h4,h5⟩:=hliveL _ hl
          have:=hinj g2 g h3 h4
          subst this
          show a=some ⟨(ρ' _).blk,0,none⟩∧n=l∧cap=(ρ' _).cap
          rw [h5]
          exact hL h1
    · show VR c' (.mapm (if Z.contains g then dead else nameT b0 dead σ g)) v
      cases hv with
      | mapm _ r hU' hL =>
        split
        · exact .mapm _ r hdeadU (fun h=>absurd h hdeadL)
        · refine .mapm _ r (hnameU g hU') fun hl=>?_
          obtain ⟨g2,h1,h2,h3,h4,h5⟩:=hliveL _ hl
          have:=hinj g2 g h3 h4
          subst this
          show r=some (ρ' _).blk
          rw [h5]
          exact hL h1
    · show AV.one (if Z.contains g then frzP dead m g r o else .ptr (nameT b0 dead σ g) r o)=true
      split
      · unfold frzP
        split
        · split <;> rfl
        · rfl
      · rfl
    · show AV.one (if Z.contains g then frzS dead m g l else .slm (nameT b0 dead σ g) l)=true
      split
      · unfold frzS
        split
        · split <;> rfl
        · rfl
      · rfl
  have hgd:Gd c':=by
    refine Gd.mk' (fun n hn=>?_) (fun n n' hn hn' he=>?_) (fun n hn=>?_) (fun n hn=>?_) (fun n B hB=>?_) hc.flt
    · obtain ⟨g,h1,_,_,_,h5⟩:=hliveL n hn
      show (ρ' n).blk<_
      rw [h5]; exact hc.lt g h1
    · obtain ⟨g,h1,_,_,h4,h5⟩:=hliveL n hn
      obtain ⟨g',h1',_,_,h4',h5'⟩:=hliveL n' hn'
      have he':(ρ' n).blk=(ρ' n').blk:=he
      rw [h5,h5'] at he'
      have:=hc.inj g g' h1 h1' he'
      subst this
      rw [h4,h4']
    · obtain ⟨g,h1,_,_,_,h5⟩:=hliveL n hn
      show ¬ c.F (ρ' n).blk
      rw [h5]; exact hc.notF g h1
    · obtain ⟨g,h1,_,_,h4,_⟩:=hliveL n hn
      rw [h4]; exact hnameU g (hc.used g h1)
    · obtain ⟨g,B1,h1,h2,h3,h4,h5⟩:=hlive n B hB
      obtain ⟨o,o1,o2⟩:=hc.blk h1
      have hr:ρ' n=c.ρ g:=by rw [h4]; exact (hname g h3).1
      refine ⟨o,?_,?_⟩
      · show c.w.heap[(ρ' n).blk]?=some o
        rw [hr]; exact o1
      · show BlkOk c' (ρ' n) o B
        rw [hr,h5]; exact o2.tr hT
  have hst:St c0 c':=by
    refine ⟨hs.os,hs.tape,hs.output,hs.size,hs.keep,hs.F,fun n hn ho=>hs.own n hn (hown n ho),fun n hn=>.inl hn,fun n hn hl=>?_⟩
    obtain ⟨g,h1,h2,h3,h4,h5⟩:=hliveL n hl
    have hnb:=h0 n hn
    have hgb:g<b0:=by rw [h4] at hnb; exact (hname g h3).2.1.1 hnb
    have:n=g:=by rw [h4]; simp [nameT,hgb]
    subst this
    obtain ⟨q1,q2⟩:=hs.names n hn h1
    exact ⟨q1,h5.trans q2⟩
  exact ⟨c',rfl,hgd,hst,rfl,fun n hn=>hn,he.tr hT⟩

mutual
/-- Whole numbers are in the range of their kinds, and so on. -/
def AV.wf:AV→Prop
  | .int k n=>sF k n
  | .str s=>s.size≤maxLen
  | .pv cs=>iR cs
  | .slv _ rows=>rows.length≤maxLen∧HF rows
  | .fn _ a b=>iR a∧iR b
  | .iface _ x=>x.wf
  | .agg cs=>iR cs
  | .tup cs=>iR cs
  | .bool _ | .nilp | .ptr _ _ _ | .slnil | .sle _ | .slm _ _ | .mapnil | .mapm _ | .fnnil | .ifnil | .und=>True
def iR:List AV→Prop
  | []=>True
  | x :: l=>x.wf∧iR l
def HF:List (List AV)→Prop
  | []=>True
  | x :: l=>iR x∧HF l
end
theorem tJ:∀ {l:List AV},(∀ (i:Nat) (x:AV),l[i]?=some x→x.wf)→iR l
  | [],_=>trivial
  | x :: l,h=>⟨h 0 x rfl,tJ fun i y hi=>h (i+1) y (by simpa using hi)⟩
theorem Hd:∀ {l:List (List AV)},(∀ (i:Nat) (r:List AV) (j:Nat) (x:AV),l[i]?=some r→r[j]?=some x→x.wf)→HF l
  | [],_=>trivial
  | r :: l,h=>⟨tJ fun j x hj=>h 0 r j x rfl hj,Hd fun i y j x hi hj=>h (i+1) y j x (by simpa using hi) hj⟩
theorem VR.wf {c:Ctx} {x:AV} {v:Value} (h:VR c x v):x.wf:=by
  induction h with
  | int k n hr=>exact hr
  | str s hs=>exact hs
  | pv cells a us hB hb hc h1 hv ih=>exact tJ ih
  | slv0 sz=>exact ⟨M6 _,trivial⟩
  | slve sz a cap hc=>exact ⟨M6 _,trivial⟩
  | slvs sz rows a cap us h0 hl hm hB hb hsz hc h1 hv ih=>exact ⟨P8 hl hm,Hd fun i r j x hi hj=>ih i r j x hi hj⟩
  | fn f fs cs vs us h1 h2 h3 h4 ih1 ih2=>exact ⟨tJ ih1,tJ ih2⟩
  | iface t x v _ ih=>exact ih
  | agg cells vs h1 h2 _ ih=>exact tJ ih
  | tup cells vs h1 _ ih=>exact tJ ih
  | _=>trivial
def Blk.wf:Blk→Prop
  | .rows _ _ rs=>rs.length≤maxLen∧HF rs
  | .mp es=>∀ k v,(k,v)∈es→k.wf∧v.wf
theorem Gd.wfB {c:Ctx} (hc:Gd c) {g:Nat} {b:Blk} (h:c.m g=some b):b.wf:=by
  obtain ⟨o,h1,h2⟩:=hc.blk h
  cases b with
  | rows t sz rs =>
    obtain ⟨cs,_,_,_,h4,h5,h7⟩:=h2
    exact ⟨P8 h4 h5,Hd fun i r j x hi hj=>(((h7 i r hi).2 j x hj).2).wf⟩
  | mp es =>
    obtain ⟨en,clk,_,_,h3⟩:=h2
    intro k v hkv
    obtain ⟨i,hi⟩:=List.getElem?_of_mem hkv
    obtain ⟨e,_,h5,h6⟩:=h3 i k v hi
    exact ⟨h5.wf,h6.wf⟩

def iF:List AV→AV
  | [x]=>x
  | l=>.tup l
def AH (P:Program):ResultVar→Option (Nat×Option (Nat×Bool))
  | .tmp t=>some (t,none)
  | .cell a t=>match (P.info? t).map (·.size),P.underlying t with
    | some n,some d=>some (a,some (n,Di d))
    | _,_=>none
def Fj (P:Program):List ResultVar→Option (List (Nat×Option (Nat×Bool)))
  | []=>some []
  | r :: l=>match AH P r,Fj P l with
    | some x,some xs=>some (x :: xs)
    | _,_=>none
def Gz (env:List AV) (m:Nat→Option Blk):Nat×Option (Nat×Bool)→Option AV
  | (t,none)=>some (env.getD t .und)
  | (a,some (n,agg))=>(cS m n agg (env.getD a .und)).map (·.v)
def resL (env:List AV) (m:Nat→Option Blk):List (Nat×Option (Nat×Bool))→Option (List AV)
  | []=>some []
  | r :: l=>match Gz env m r,resL env m l with
    | some x,some xs=>some (x :: xs)
    | _,_=>none
def lO:Option (List AV)→(AV→AM→Nat→Prop)→AM→Nat→Prop
  | some l,fin,m,b=>fin (iF l) m b
  | none,_,_,_=>False
def gP (rs:List (Nat×Option (Nat×Bool))) (fin:AV→AM→Nat→Prop):KX
  | .exit _,_,_,_=>False
  | .normal,env,m,b=>lO (resL env m.get rs) fin m b
  | .ret,env,m,b=>lO (resL env m.get rs) fin m b

structure AFn where
  n:Nat
  code:ACode
  res:List (Nat×Option (Nat×Bool))
def ZQ (P:Program) (fn:Func):Option AFn :=
  if fn.name == "runtime.NumGoroutine" then none else match fn.body with
  | none=>none
  | some cd=>match lV P fn.ntmps cd,Fj P fn.results.toList with
    | some c,some r=>some { n:=fn.ntmps,code:=c,res:=r }
    | _,_=>none
def xf (P:Program) (f:FuncId):Option AFn:=match P.funcs[f]? with
  | some fn=>ZQ P fn
  | none=>none

section
variable {P:Program}
def GM (tmps:Array Value):ResultVar→Sem Value
  | .tmp t=>pure (tmps.getD t undef)
  | .cell a t=>do loadVar t (← asAddr (tmps.getD a undef))
theorem Za {c:Ctx} (hc:Gd c) {env:List AV} {tmps:Array Value} (he:ER c env tmps) {r:ResultVar} {q:Nat×Option (Nat×Bool)} {x:AV} (hx:AH P r=some q) (h:Gz env c.m q=some x) :
    ∃ z,(GM tmps r).run P c.w=.ok z c.w∧VR c x z:=by
  cases r with
  | tmp t =>
    obtain rfl:=E5 hx
    obtain rfl:=E5 h
    exact ⟨_,rfl,he.get t⟩
  | cell a t =>
    simp only [AH] at hx
    split at hx
    · rename_i n d hn hd
      obtain rfl:=E5 hx
      simp only [Gz,E7] at h
      obtain ⟨r,h1,rfl⟩:=h
      have hv:=he.get a
      obtain ⟨_,z,h2,h3⟩:=Xx (P:=P) (t:=t) hc hd hn hv h1
      refine ⟨z,?_,h3⟩
      rw [← h2]
      show Sem.run P (do loadVar t (← asAddr (tmps.getD a dB))) c.w=_
      unfold Instr.loadAt
      generalize tmps.getD a dB=v at hv h2
      revert h1 hv
      generalize env.getD a .und=y
      intro h1 hv
      cases hv with
      | ptr g row off ad hU hL =>
        cases ad with
        | none=>simp [Instr.loadAt,Instr.sureAddr,stuck] at h2
        | some ad=>rfl
      | pv cells ad us hB hb hc h1' hv=>rfl
      | _=>simp [cS] at h1
    · cases hx
theorem Jp {c:Ctx} (hc:Gd c) {env:List AV} {tmps:Array Value} (he:ER c env tmps):∀ {rs:List ResultVar} {qs:List (Nat×Option (Nat×Bool))} {l:List AV},Fj P rs=some qs→resL env c.m qs=some l →
    ∃ zs,(rs.mapM (GM tmps)).run P c.w=.ok zs c.w∧l.length=zs.length∧∀ (i:Nat) (x:AV),l[i]?=some x→VR c x (zs.getD i dB)
  | [],qs,l,hx,h=>by
    obtain rfl:=E5 hx
    obtain rfl:=E5 h
    exact ⟨[],rfl,rfl,by simp⟩
  | r :: rs,qs,l,hx,h=>by
    simp only [Fj] at hx
    split at hx
    · rename_i q qs' h1 h2
      obtain rfl:=E5 hx
      simp only [resL] at h
      split at h
      · rename_i x xs h3 h4
        obtain rfl:=E5 h
        obtain ⟨z,k1,k2⟩:=Za hc he h1 h3
        obtain ⟨zs,k3,k4,k5⟩:=Jp hc he h2 h4
        refine ⟨z :: zs,?_,by simp [k4],fun i y hi=>?_⟩
        · rw [List.mapM_cons]
          simp only [Sem.run_bind,k1,Result.andThen_ok,k3,Sem.run_pure]
        · cases i with
          | zero=>simp at hi; subst hi; simpa using k2
          | succ i=>simpa using k5 i y (by simpa using hi)
      · cases h
    · cases hx
theorem zL {c:Ctx} (hc:Gd c) {fn:Func} {env:List AV} {tmps:Array Value} (he:ER c env tmps) {qs:List (Nat×Option (Nat×Bool))} {l:List AV} (hx:Fj P fn.results.toList=some qs) (h:resL env c.m qs=some l) :
    ∃ z,(results fn tmps).run P c.w=.ok z c.w∧VR c (iF l) z:=by
  obtain ⟨zs,h1,h2,h3⟩:=Jp hc he hx h
  have hm:(fn.results.mapM (GM tmps)).run P c.w=.ok zs.toArray c.w:=by
    rw [Array.mapM_eq_mapM_toList]
    simp only [Sem.run_map,h1,Result.andThen_ok]
  have hres:results fn tmps=(do
      let vs ← fn.results.mapM (GM tmps)
      pure (if h:vs.size=1 then vs[0] else .tuple vs)):=by
    unfold results
    congr 1
  rw [hres]
  simp only [Sem.run_bind,hm,Result.andThen_ok,Sem.run_pure]
  refine ⟨_,rfl,?_⟩
  cases zs with
  | nil =>
    cases l with
    | nil=>exact .tup [] #[] rfl (by simp)
    | cons x l=>simp at h2
  | cons z zs =>
    cases l with
    | nil=>simp at h2
    | cons x l =>
      cases zs with
      | nil =>
        cases l with
        | nil=>simpa [iF] using h3 0 x rfl
        | cons y l=>simp at h2
      | cons z' zs =>
        cases l with
        | nil=>simp at h2
        | cons y l =>
          have:¬ (z :: z' :: zs).toArray.size=1:=by simp
          rw [dif_neg this]
          exact .tup _ _ (by simpa using h2) (fun i w hi=>by simpa [F0,E6] using h3 i w hi)

def sD (P:Program) (f:FuncId) (args:List AV) (e:Ef) (m:Nat→Option Blk) (b:Nat):Prop :=
  mM P f∧∀ c:Ctx,Gd c→c.m=m→(∀ n,c.U n→n<b)→∀ vs,ARel c args vs →
    Calls P f vs c.w fun en w'=>∃ c' z,en=.returned z∧c'.w=w'∧Gd c'∧St c c'∧c'.m=ups m e.2.1∧(∀ n,c'.U n→(b≤n∧n<b+16)∨c.U n)∧VR c' e.1 z

def gM (b0:Nat) (m0:AM) (e:Ef) (v:AV) (m:AM) (b:Nat):Prop :=
  ∃ v' m' b',SubS b0 [v] m b [v'] m' b'∧b'≤b0+16∧m'.get=(m0.upd e.2.1).get∧v'=e.1

theorem Hs {f:FuncId} {A:AFn} (h:xf P f=some A):mM P f∧∃ fn cd,P.funcs[f]?=some fn∧fn.body=some cd∧fn.ntmps=A.n∧lV P A.n cd=some A.code∧Fj P fn.results.toList=some A.res:=by
  unfold xf at h
  split at h
  · rename_i fn hfn
    unfold ZQ at h
    split at h
    · cases h
    · rename_i hname
      split at h
      · cases h
      · rename_i cd hcd
        split at h
        · rename_i c r h1 h2
          obtain rfl:=E5 h
          exact ⟨⟨fn,hfn,by simpa using hname,by rw [hcd]; rfl⟩,fn,cd,hfn,hcd,rfl,h1,h2⟩
        · cases h
  · cases h

theorem aI (hmix:P.follows .mixedOrders=true) {f:FuncId} {A:AFn} (hA:xf P f=some A) {args:List AV} {m0:AM} {b0:Nat} {e:Ef} (hl:args.length≤A.n)
    (h:iR args→(∀ g B,m0.get g=some B→B.wf)→vc P b0 A.code (gP A.res (gM b0 m0 e)) (args ++ M0 (A.n - args.length) .und) m0 b0):sD P f args e m0.get b0:=by
  obtain ⟨hcal,fn,cd,h1,h2,h3,h4,h5⟩:=Hs hA
  refine ⟨hcal,fun c hc hm hU vs hvs=>?_⟩
  have hv:=h (tJ fun i x hi=>(hvs.2 i x hi).wf) (fun g B hg=>hc.wfB (by rw [hm]; exact hg))
  refine calls_of_wp h1 h2 ?_
  have hsz:vs.size=args.length:=hvs.1.symm
  refine pU hmix h4 (G1 b0) hv c c { tmps:=vs ++ Array.replicate (fn.ntmps - vs.size) undef,defers:=[] } _ hU hc (St.refl c) hm (fun n hn=>.inl hn) ?_ ?_ rfl ?_
  · refine ⟨by simp [h3,hsz],fun i x hi=>?_⟩
    by_cases hil:i<args.length
    · rw [H4 hil] at hi
      have:=hvs.2 i x hi
      have hiv:i<vs.size:=by omega
      simpa [F0,Array.getElem?_append,hiv] using this
    · rw [I6 (by omega)] at hi
      have:=I7 hi
      rw [List.mem_replicate] at this
      rw [this.2]
      exact .und _
  · simp [h3,hsz]; omega
  · intro ex env' m' b' c' a' k hb j1 j2 j3 j4 j5 j6 j7
    have fin:lO (resL env' m'.get A.res) (gM b0 m0 e) m' b'→a'.defers=[]∧∃ v,(results fn a'.tmps).run P c'.w=.ok v c'.w∧∃ c'' z,Ending.returned v=.returned z∧c''.w=c'.w∧Gd c''∧St c c''∧c''.m=ups m0.get e.2.1∧(∀ n,c''.U n→(b0≤n∧n<b0+16)∨c.U n)∧VR c'' e.1 z:=by
      intro k
      refine ⟨j7,?_⟩
      cases hl:resL env' m'.get A.res with
      | none=>rw [hl] at k; exact k.elim
      | some l =>
        rw [hl] at k
        obtain ⟨z,hz1,hz2⟩:=zL (fn:=fn) j1 j5 h5 (by rw [j3]; exact hl)
        obtain ⟨v',m2,b2,q1,q2,q3,q4⟩:=k
        obtain ⟨c2,w2,g2,s2,mm2,u2,e2⟩:=q1 c c' #[z] hU j1 j2 j3 j4 ⟨rfl,fun i x hi=>by
          cases i with
          | zero=>simp at hi; subst hi; exact hz2
          | succ i=>simp at hi⟩
        refine ⟨z,hz1,c2,z,rfl,w2,g2,s2,mm2.trans (q3.trans (U5 _ _)),fun n hn=>?_,?_⟩
        · rcases u2 n hn with q | q
          · exact .inr q
          · exact .inl ⟨q.1,by omega⟩
        · have:=e2.2 0 v' rfl
          rw [← q4]
          exact this
    cases ex with
    | normal=>exact fin k
    | exit i=>exact k.elim
    | ret=>exact fin k
end

def vwP (m:Nat→Option Blk) (d g r o:Nat):AV:=match m g with
  | some (.rows _ _ rs)=>match rs[r]? with
    | some row=>.pv (row.drop o)
    | none=>.ptr d r o
  | _=>.ptr d r o
def vwS (m:Nat→Option Blk) (d g l:Nat):AV:=match m g with
  | some (.rows _ sz rs)=>if l≤rs.length then .slv sz (rs.take l) else .slm d l
  | _=>.slm d l
def rI (m:Nat→Option Blk) (K:List Nat) (B0:Nat) (Z:List Nat):Tr where
  p g r o:=if Z.contains g then vwP m (B0 - 1) g r o else .ptr (if K.contains g then g else B0 - 1) r o
  s g l:=if Z.contains g then vwS m (B0 - 1) g l else .slm (if K.contains g then g else B0 - 1) l
  mp g:=.mapm (if Z.contains g then B0 - 1 else if K.contains g then g else B0 - 1)
def jR (B0 b n:Nat):Nat:=if n<B0 then (if n=B0 - 1 then b+15 else n) else if n<B0+15 then b+(n - B0) else b+15
def mU (B0 b:Nat):Tr where
  p g r o:=.ptr (jR B0 b g) r o
  s g l:=.slm (jR B0 b g) l
  mp g:=.mapm (jR B0 b g)
def rG (B0 b:Nat) (p:Nat×Option Blk):Nat×Option Blk:=(jR B0 b p.1,p.2.map (·.tr (mU B0 b)))

theorem Yj {φ:Nat→Nat} {ψ:Option Blk→Option Blk} {u:List (Nat×Option Blk)} {k:Nat} (hinj:∀ p,p∈u→φ p.1=φ k→p.1=k):lB (u.map fun p=>(φ p.1,ψ p.2)) (φ k)=(lB u k).map ψ:=by
  unfold lB
  have gen:∀ (u:List (Nat×Option Blk)) (acc:Option (Option Blk)),(∀ p,p∈u→φ p.1=φ k→p.1=k) →
      (u.map fun p=>(φ p.1,ψ p.2)).foldl (fun acc p=>if p.1=φ k then some p.2 else acc) (acc.map ψ)=(u.foldl (fun acc p=>if p.1=k then some p.2 else acc) acc).map ψ:=by
    intro u
    induction u with
    | nil=>intro acc _; rfl
    | cons p u ih =>
      intro acc h
      simp only [N4,N7]
      rw [← ih _ (fun q hq=>h q (H8 _ hq))]
      by_cases hp:p.1=k
      · simp [hp]
      · have:¬ φ p.1=φ k:=fun e=>hp (h p (J7 ..) e)
        simp [hp,this]
  exact gen u none hinj

mutual
/-- No frozen cells in it. -/
def AV.flat:AV→Bool
  | .pv _=>false
  | .slv _ rows=>rows.isEmpty
  | .fn _ a b=>flats a && flats b
  | .iface _ x=>x.flat
  | .agg cs=>flats cs
  | .tup cs=>flats cs
  | .ptr _ _ _ | .slm _ _ | .mapm _ | .int _ _ | .bool _ | .str _ | .nilp | .slnil | .sle _ | .mapnil | .fnnil | .ifnil | .und=>true
def flats:List AV→Bool
  | []=>true
  | x :: l=>x.flat && flats l
end
def Blk.flat:Blk→Bool
  | .rows _ _ rs=>rs.all flats
  | .mp es=>es.all fun p=>p.1.flat && p.2.flat
theorem nM:∀ {l:List AV} {y:AV},flats l=true→y∈l→y.flat=true
  | z :: l,y,h,hi=>by
    simp only [flats,D9] at h
    rcases N2.1 hi with rfl | hi
    · exact h.1
    · exact nM h.2 hi
theorem VR.moreF {c c':Ctx} (hρ:c'.ρ=c.ρ) (hU:c'.U=c.U) (hm:c'.m=c.m) {x:AV} {v:Value} (h:VR c x v):x.flat=true→VR c' x v:=by
  have hL:∀ g,c'.L g→c.L g:=fun g hl=>by unfold Ctx.L at hl ⊢; rwa [hm] at hl
  induction h with
  | int k n hr=>intro _; exact .int k n hr
  | bool b=>intro _; exact .bool b
  | str s hs=>intro _; exact .str s hs
  | nilp=>intro _; exact .nilp
  | ptr g row off a q1 q2=>intro _; exact .ptr g row off a (by rw [hU]; exact q1) (fun hl=>by rw [hρ]; exact q2 (hL g hl))
  | pv cs a us hB hb hcc h1 hv ih=>intro h; simp [AV.flat] at h
  | slnil=>intro _; exact .slnil
  | sle sz a cap hc=>intro _; exact .sle sz a cap hc
  | slv0 sz=>intro _; exact .slv0 sz
  | slve sz a cap hc=>intro _; exact .slve sz a cap hc
  | slvs sz rows a cap us h0 hl hm hB hb hsz hcc h1 hv ih=>intro h; simp [AV.flat] at h; exact absurd h h0
  | slm g len a n cap q1 q2=>intro _; exact .slm g len a n cap (by rw [hU]; exact q1) (fun hl=>by rw [hρ]; exact q2 (hL g hl))
  | mapnil=>intro _; exact .mapnil
  | mapm g r q1 q2=>intro _; exact .mapm g r (by rw [hU]; exact q1) (fun hl=>by rw [hρ]; exact q2 (hL g hl))
  | fn f fs cs vs us h1 h2 h3 h4 ih1 ih2=>intro h; simp only [AV.flat,D9] at h; exact .fn f fs cs vs us h1 h2 (fun i x hi=>ih1 i x hi (nM h.1 (I7 hi))) (fun i x hi=>ih2 i x hi (nM h.2 (I7 hi)))
  | fnnil=>intro _; exact .fnnil
  | iface t x v _ ih=>intro h; simp only [AV.flat] at h; exact .iface t x v (ih h)
  | ifnil=>intro _; exact .ifnil
  | agg cs vs h1 h2 _ ih=>intro h; simp only [AV.flat] at h; exact .agg cs vs h1 h2 (fun i x hi=>ih i x hi (nM h (I7 hi)))
  | tup cs vs h1 _ ih=>intro h; simp only [AV.flat] at h; exact .tup cs vs h1 (fun i x hi=>ih i x hi (nM h (I7 hi)))
  | und v=>intro _; exact .und v
theorem BlkOk.moreF {c c':Ctx} (hρ:c'.ρ=c.ρ) (hU:c'.U=c.U) (hm:c'.m=c.m) {ni:NI} {o:Obj} {b:Blk} (hb:BlkOk c ni o b) (hf:b.flat=true):BlkOk c' ni o b:=by
  cases b with
  | rows t sz rs =>
    obtain ⟨cs,h1,h2,h3,h4,h5,h7⟩:=hb
    exact ⟨cs,h1,h2,h3,h4,h5,fun i r hi=>⟨(h7 i r hi).1,fun j x hj=>⟨((h7 i r hi).2 j x hj).1,((h7 i r hi).2 j x hj).2.moreF hρ hU hm (nM (G4.1 hf r (I7 hi)) (I7 hj))⟩⟩⟩
  | mp es =>
    obtain ⟨en,clk,h1,h2,h3⟩:=hb
    refine ⟨en,clk,h1,h2,fun i k v hi=>?_⟩
    obtain ⟨e,h4,h5,h6⟩:=h3 i k v hi
    have:=G4.1 hf (k,v) (I7 hi)
    simp only [D9] at this
    exact ⟨e,h4,h5.moreF hρ hU hm this.1,h6.moreF hρ hU hm this.2⟩
theorem oB:∀ (u u':List (Nat×Option Blk)) (m:Nat→Option Blk),ups m (u ++ u')=ups (ups m u) u'
  | [],_,_=>rfl
  | (g,b) :: u,u',m=>oB u u' (put m g b)
theorem xH (m:Nat→Option Blk) (Z:List Nat) (n:Nat):ups m (Z.map fun g=>(g,none)) n=if n∈Z then none else m n:=by
  rw [pT]
  by_cases h:n∈Z
  · rw [if_pos h]
    have : lB (Z.map fun g=>(g,(none:Option Blk))) n=some none:=by
      unfold lB
      have gen:∀ (l:List Nat) (acc:Option (Option Blk)),(acc=none∨acc=some none)→(l.map fun g=>(g,(none:Option Blk))).foldl (fun acc p=>if p.1=n then some p.2 else acc) acc=some none ∨
          (n∉l∧(l.map fun g=>(g,(none:Option Blk))).foldl (fun acc p=>if p.1=n then some p.2 else acc) acc=acc):=by
        intro l
        induction l with
        | nil=>intro acc _; exact .inr ⟨by simp,rfl⟩
        | cons k l ih =>
          intro acc hacc
          simp only [N4,N7]
          by_cases hk:k=n
          · simp only [hk,if_true]
            rcases ih (some none) (.inr rfl) with q | ⟨_,q⟩
            · exact .inl q
            · exact .inl q
          · simp only [hk,if_false]
            rcases ih acc hacc with q | ⟨q1,q2⟩
            · exact .inl q
            · exact .inr ⟨by simp [Ne.symm hk,q1],q2⟩
      rcases gen Z none (.inl rfl) with q | ⟨q,_⟩
      · exact q
      · exact absurd h q
    rw [this]; rfl
  · rw [if_neg h,tW (fun p hp=>by
      obtain ⟨g,hg,rfl⟩:=G5.1 hp
      exact fun e=>h (e ▸ hg))]
    rfl

section
variable {P:Program}

def lT (kz:Bool) (Z:List Nat):List (Nat×Option Blk):=if kz then Z.map fun g=>(g,none) else []
theorem FW {kz : Bool} {f : FuncId} {args args' : List AV} {e : Ef} {m0:AM} {B0:Nat} {m:Nat→Option Blk} {b:Nat} {Z:List Nat} (h:sD P f args e m0.get B0) (h1:1≤B0) (hb:B0≤b)
    (h0:∀ n B,m0.get n=some B→n<B0 - 1∧m n=some B) (hKs:∀ n,n∈m0.map (·.1)↔(m0.get n).isSome=true)
    (hcl:∀ T:Tr,(∀ g,(m0.get g).isSome=true→(∀ r o,T.p g r o=.ptr g r o)∧(∀ l,T.s g l=.slm g l)∧T.mp g=.mapm g)→∀ n B,m0.get n=some B→B.tr T=B)
    (hZ:∀ g,g∈Z→m0.get g=none∧∀ t sz rs,m g=some (.rows t sz rs)→puress rs=true) (hargs:trs (rI m (m0.map (·.1)) B0 Z) args'=args)
    (hups:∀ p,p∈e.2.1→p.1<B0+15∧(p.1<B0→(m0.get p.1).isSome=true)) (hfl:kz=true∨Z=[]∨m0=[]∧e.1.flat=true∧∀ p,p∈e.2.1→∀ B,p.2=some B→B.flat=true)
    (rd:List Nat):MC P f args' (e.1.tr (mU B0 b),lT kz Z ++ e.2.1.map (rG B0 b),rd) m b:=by
  obtain ⟨hcal,hb1⟩:=h
  refine ⟨hcal,fun c hc hm hU vs hvs=>?_⟩
  subst hm
  let T1:=rI c.m (m0.map (·.1)) B0 Z
  let c0:Ctx:={ F:=fun n=>c.F n∨∃ g,c.L g∧m0.get g=none∧g∉Z∧(c.ρ g).blk=n,ρ:=c.ρ,U:=fun n=>n<B0∧((m0.get n).isSome=true∨n=B0 - 1),m:=m0.get,w:=c.w }
  have hL0:∀ n,c0.L n→c.L n∧n<B0 - 1:=by
    intro n hn
    obtain ⟨B,hB⟩:=G2.1 hn
    obtain ⟨q1,q2⟩:=h0 n B hB
    exact ⟨by simp [Ctx.L,q2],q1⟩
  have hown0:∀ n,c0.own n→c.own n:=fun n ⟨g,g1,g2⟩=>⟨g,(hL0 g g1).1,g2⟩
  have hnB0 : ∀ n, ¬ c.B n → ¬ c0.B n := fun n hn hh => hn (by rcases hh with (q | ⟨g,q1,_,_,q2⟩) | q; · exact .inl q
                                                               · exact .inr ⟨g,q1,q2⟩
                                                               · exact .inr (hown0 n q))
  have hdead:¬ c0.L (B0 - 1):=fun hl=>by have:=(hL0 _ hl).2; omega
  have hdU:c0.U (B0 - 1):=⟨by omega,.inr rfl⟩
  have hnone:∀ g,c.L g→m0.get g=none→¬ c0.own (c.ρ g).blk:=by
    rintro g hl hg ⟨n,n1,n2⟩
    have:=hc.inj n g (hL0 n n1).1 hl n2
    subst this
    simp [Ctx.L,c0,hg] at n1
  have hzB:∀ g,g∈Z→c.L g→¬ c0.B (c.ρ g).blk:=by
    rintro g hg hl ((q | ⟨g',q1,_,q3,q4⟩) | q)
    · exact hc.notF g hl q
    · exact q3 (hc.inj g' g q1 hl q4 ▸ hg)
    · exact hnone g hl (hZ g hg).1 q
  have hKg:∀ g,(m0.map (·.1)).contains g=true↔(m0.get g).isSome=true:=fun g=>by rw [H6]; exact hKs g
  have hzg:∀ g,Z.contains g=true↔g∈Z:=fun g=>H6
  -- values without names
  have hpure:∀ x u,AV.pure x=true→VR c x u→VR c0 x u:=by
    intro x u hx hv
    have hsame:VR { c with m:=fun _=>none,U:=fun _=>True } x u:=by
      have : TrOk ⟨.ptr,.slm,.mapm⟩ c { c with m:=fun _=>none,U:=fun _=>True }:=by
        refine ⟨fun g r o v hv=>?_,fun g l v hv=>?_,fun g v hv=>?_,fun _ _ _=>rfl,fun _ _=>rfl,fun _=>rfl,fun n _ hn hh=>?_,G1 _,fun _ _ _ _=>rfl⟩
        · cases hv with | ptr _ _ _ a q1 q2=>exact .ptr _ _ _ a trivial (fun hl=>by simp [Ctx.L] at hl)
        · cases hv with | slm _ _ a n k q1 q2=>exact .slm _ _ a n k trivial (fun hl=>by simp [Ctx.L] at hl)
        · cases hv with | mapm _ r q1 q2=>exact .mapm _ r trivial (fun hl=>by simp [Ctx.L] at hl)
        · rcases hh with q | ⟨g,q1,_⟩
          · exact hn (.inl q)
          · simp [Ctx.L] at q1
      have hh:=hv.tr this
      rwa [AV.tr_pure _ _ hx] at hh
    have:TrOk ⟨fun _ r o=>.ptr (B0 - 1) r o,fun _ l=>.slm (B0 - 1) l,fun _=>.mapm (B0 - 1)⟩ c c0:=by
      refine ⟨fun g r o v hv=>?_,fun g l v hv=>?_,fun g v hv=>?_,fun _ _ _=>rfl,fun _ _=>rfl,fun _=>rfl,fun n _ hn=>hnB0 n hn,G1 _,fun _ _ _ _=>rfl⟩
      · cases hv with | ptr _ _ _ a q1 q2=>exact .ptr _ _ _ a hdU (fun hl=>absurd hl hdead)
      · cases hv with | slm _ _ a n k q1 q2=>exact .slm _ _ a n k hdU (fun hl=>absurd hl hdead)
      · cases hv with | mapm _ r q1 q2=>exact .mapm _ r hdU (fun hl=>absurd hl hdead)
    have hh:=hv.tr this
    rwa [AV.tr_pure _ _ hx] at hh
  have hpc:∀ (l:List AV) (y:AV),pures l=true→y∈l→y.pure=true:=by
    intro l
    induction l with
    | nil=>intro y _ h; cases h
    | cons z l ih =>
      intro y h hi
      simp only [pures,D9] at h
      rcases N2.1 hi with rfl | hi
      · exact h.1
      · exact ih y h.2 hi
  have hpcs:∀ (l:List (List AV)) (y:List AV),puress l=true→y∈l→pures y=true:=by
    intro l
    induction l with
    | nil=>intro y _ h; cases h
    | cons z l ih =>
      intro y h hi
      simp only [puress,D9] at h
      rcases N2.1 hi with rfl | hi
      · exact h.1
      · exact ih y h.2 hi
  have hT1 : TrOk T1 c c0:=by
    refine ⟨fun g r o v hv=>?_,fun g l v hv=>?_,fun g v hv=>?_,fun g r o=>?_,fun g l=>?_,fun g=>rfl,fun n _ hn=>hnB0 n hn,G1 _,fun _ _ _ _=>rfl⟩
    · show VR c0 (if Z.contains g then vwP c.m (B0 - 1) g r o else .ptr (if (m0.map (·.1)).contains g then g else B0 - 1) r o) v
      have dd:VR c0 (.ptr (B0 - 1) r o) v:=by
        cases hv with | ptr _ _ _ a q1 q2=>exact .ptr _ _ _ a hdU (fun hl=>absurd hl hdead)
      split
      · rename_i hg
        rw [hzg] at hg
        unfold vwP
        split
        · rename_i t sz rs hmg
          split
          · rename_i row hrow
            exact Bq hc hmg hrow (fun _ _=>rfl) (G1 _) (hzB g hg (by simp [Ctx.L,hmg])) (fun x hx u hu=>hpure x u (hpc _ _ (hpcs _ _ ((hZ g hg).2 t sz rs hmg) (I7 hrow)) hx) hu) hv
          · exact dd
        · exact dd
      · split
        · rename_i hk
          cases hv with
          | ptr _ _ _ a q1 q2 =>
            have hs:=(hKg g).1 hk
            obtain ⟨B,hB⟩:=G2.1 hs
            exact .ptr _ _ _ a ⟨by have:=(h0 g B hB).1; omega,.inl hs⟩ (fun hl=>q2 (hL0 g hl).1)
        · exact dd
    · show VR c0 (if Z.contains g then vwS c.m (B0 - 1) g l else .slm (if (m0.map (·.1)).contains g then g else B0 - 1) l) v
      have dd:VR c0 (.slm (B0 - 1) l) v:=by
        cases hv with | slm _ _ a n k q1 q2=>exact .slm _ _ a n k hdU (fun hl=>absurd hl hdead)
      split
      · rename_i hg
        rw [hzg] at hg
        unfold vwS
        split
        · rename_i t sz rs hmg
          split
          · rename_i hl
            exact Br hc hmg hl (fun _ _=>rfl) (G1 _) (hzB g hg (by simp [Ctx.L,hmg])) (fun r hr x hx u hu=>hpure x u (hpc _ _ (hpcs _ _ ((hZ g hg).2 t sz rs hmg) hr) hx) hu) hv
          · exact dd
        · exact dd
      · split
        · rename_i hk
          cases hv with
          | slm _ _ a n k q1 q2 =>
            have hs:=(hKg g).1 hk
            obtain ⟨B,hB⟩:=G2.1 hs
            exact .slm _ _ a n k ⟨by have:=(h0 g B hB).1; omega,.inl hs⟩ (fun hl=>q2 (hL0 g hl).1)
        · exact dd
    · show VR c0 (.mapm (if Z.contains g then B0 - 1 else if (m0.map (·.1)).contains g then g else B0 - 1)) v
      have dd:VR c0 (.mapm (B0 - 1)) v:=by
        cases hv with | mapm _ r q1 q2=>exact .mapm _ r hdU (fun hl=>absurd hl hdead)
      split
      · exact dd
      · split
        · rename_i hk
          cases hv with
          | mapm _ r q1 q2 =>
            have hs:=(hKg g).1 hk
            obtain ⟨B,hB⟩:=G2.1 hs
            exact .mapm _ r ⟨by have:=(h0 g B hB).1; omega,.inl hs⟩ (fun hl=>q2 (hL0 g hl).1)
        · exact dd
    · show AV.one (if Z.contains g then vwP c.m (B0 - 1) g r o else .ptr (if (m0.map (·.1)).contains g then g else B0 - 1) r o)=true
      split
      · unfold vwP
        split
        · split <;> rfl
        · rfl
      · rfl
    · show AV.one (if Z.contains g then vwS c.m (B0 - 1) g l else .slm (if (m0.map (·.1)).contains g then g else B0 - 1) l)=true
      split
      · unfold vwS
        split
        · split <;> rfl
        · rfl
      · rfl
  have hid1:∀ n B,m0.get n=some B→B.tr T1=B:=by
    refine hcl T1 fun g hg=>?_
    have hz:Z.contains g=false:=by
      cases hh:Z.contains g with
      | false=>rfl
      | true=>have:=(hZ g ((hzg g).1 hh)).1; rw [this] at hg; cases hg
    have hk:=(hKg g).2 hg
    refine ⟨fun r o=>?_,fun l=>?_,?_⟩ <;> simp only [T1,rI,hz,hk,G0,if_false,if_true]
  have hid2:∀ n B,m0.get n=some B→B.tr (mU B0 b)=B:=by
    refine hcl _ fun g hg=>?_
    obtain ⟨B,hB⟩:=G2.1 hg
    have:=(h0 g B hB).1
    have hn:jR B0 b g=g:=by unfold jR; rw [if_pos (by omega),if_neg (by omega)]
    refine ⟨fun r o=>?_,fun l=>?_,?_⟩ <;> simp only [mU,hn]
  have hgd0:Gd c0:=by
    refine Gd.mk' (fun n hn=>hc.lt n (hL0 n hn).1) (fun n n' hn hn' he=>hc.inj n n' (hL0 n hn).1 (hL0 n' hn').1 he) (fun n hn hh=>by
        rcases hh with q | ⟨g,q1,q2,_,q4⟩
        · exact hc.notF n (hL0 n hn).1 q
        · have:=hc.inj g n q1 (hL0 n hn).1 q4
          subst this
          simp [Ctx.L,c0,q2] at hn) (fun n hn=>⟨by have:=(hL0 n hn).2; omega,.inl hn⟩) (fun n B hB=>?_) (fun n hn=>by
        rcases hn with q | ⟨g,q1,_,_,rfl⟩
        · exact hc.flt n q
        · exact hc.lt g q1)
    obtain ⟨o,o1,o2⟩:=hc.blk (h0 n B hB).2
    refine ⟨o,o1,?_⟩
    rw [← hid1 n B hB]
    exact o2.tr hT1
  refine (hb1 c0 hgd0 rfl (fun n hn=>hn.1) vs ⟨?_,fun i x hi=>?_⟩).mono ?_
  · rw [← hargs,mL]; simpa using hvs.1
  · rw [← hargs] at hi
    obtain ⟨y,hy,rfl⟩:=tE hi
    exact (hvs.2 i y hy).tr hT1
  -- back
  rintro en w' ⟨c1,z,rfl,rfl,g1,s1,m1,u1,v1⟩
  let c':Ctx:={ F:=c.F,ρ:=fun n=>if b≤n∧n<b+16 then c1.ρ (n - b+B0) else c.ρ n,U:=fun n=>c.U n∨b≤n∧n<b+16,m:=ups c.m (lT kz Z ++ e.2.1.map (rG B0 b)),w:=c1.w }
  let mk:=ups c.m (lT kz Z)
  have hmk:∀ n B,mk n=some B→c.m n=some B∧(kz=true→n∉Z):=by
    intro n B hn
    simp only [mk,lT] at hn
    split at hn
    · rw [xH] at hn
      split at hn
      · cases hn
      · rename_i hz; exact ⟨hn,fun _=>hz⟩
    · rename_i hk; exact ⟨hn,fun e=>absurd e hk⟩
  have hmk0:∀ n B,m0.get n=some B→mk n=c.m n:=by
    intro n B hn
    simp only [mk,lT]
    split
    · rw [xH,if_neg (fun hz=>by have:=(hZ n hz).1; rw [hn] at this; cases this)]
    · rfl
  have m0none:∀ k,B0 - 1≤k→m0.get k=none:=by
    intro k hk
    cases hh:m0.get k with
    | none=>rfl
    | some B=>have:=(h0 k B hh).1; omega
  have c1m:∀ k,c1.m k=(lB e.2.1 k).getD (m0.get k):=fun k=>by rw [m1,pT]
  have inj:∀ k,(k<B0 - 1∨B0≤k∧k<B0+15)→∀ p,p∈e.2.1→jR B0 b p.1=jR B0 b k→p.1=k:=by
    intro k hk p hp he
    obtain ⟨q1,q2⟩:=hups p hp
    have hpl:p.1<B0→p.1<B0 - 1:=fun hlt=>by
      obtain ⟨B,hB⟩:=G2.1 (q2 hlt)
      exact (h0 _ B hB).1
    unfold jR at he
    rcases hk with hk | hk
    · rw [if_pos (show k<B0 by omega),if_neg (show ¬ k=B0 - 1 by omega)] at he
      by_cases hlt:p.1<B0
      · have:=hpl hlt
        rw [if_pos hlt,if_neg (by omega)] at he; exact he
      · rw [if_neg hlt,if_pos q1] at he; omega
    · rw [if_neg (show ¬ k<B0 by omega),if_pos hk.2] at he
      by_cases hlt:p.1<B0
      · have:=hpl hlt
        rw [if_pos hlt,if_neg (by omega)] at he; omega
      · rw [if_neg hlt,if_pos q1] at he; omega
  have cm:∀ k,(k<B0 - 1∨B0≤k∧k<B0+15)→c'.m (jR B0 b k)=((lB e.2.1 k).map (Option.map (·.tr (mU B0 b)))).getD (mk (jR B0 b k)):=by
    intro k hk
    show ups c.m (lT kz Z ++ e.2.1.map (rG B0 b)) _=_
    rw [oB,pT]
    congr 1
    exact Yj (φ:=jR B0 b) (ψ:=Option.map (·.tr (mU B0 b))) (inj k hk)
  have cmo:∀ n,(∀ p,p∈e.2.1→jR B0 b p.1≠n)→c'.m n=mk n:=by
    intro n hn
    show ups c.m (lT kz Z ++ e.2.1.map (rG B0 b)) n=_
    rw [oB,pT,tW (fun p hp=>by
      obtain ⟨q,q1,rfl⟩:=G5.1 hp
      exact hn q q1)]
    rfl
  have up1:∀ k,k<B0 - 1→jR B0 b k=k:=fun k hk=>by unfold jR; rw [if_pos (by omega),if_neg (by omega)]
  have up2:∀ k,B0≤k∧k<B0+15→jR B0 b k=b+(k - B0):=fun k hk=>by unfold jR; rw [if_neg (by omega),if_pos hk.2]
  have upr:∀ p,p∈e.2.1→(jR B0 b p.1=p.1∧p.1<B0 - 1∧(m0.get p.1).isSome=true)∨(b≤jR B0 b p.1∧jR B0 b p.1<b+15):=by
    intro p hp
    obtain ⟨q1,q2⟩:=hups p hp
    by_cases hlt:p.1<B0
    · obtain ⟨B,hB⟩:=G2.1 (q2 hlt)
      have:=(h0 _ B hB).1
      exact .inl ⟨up1 _ this,this,q2 hlt⟩
    · right
      rw [up2 _ ⟨by omega,q1⟩]; omega
  have hfresh:∀ n,b≤n→n<b+16→mk n=none:=by
    intro n n1 n2
    cases hh:mk n with
    | none=>rfl
    | some B=>exact absurd (hc.used n (by simp [Ctx.L,(hmk n B hh).1])) (hU n n1 n2)
  -- the three kinds of names
  have kinds:∀ n B,c'.m n=some B→(b≤n∧n<b+15∧∃ B1,c1.m (n - b+B0)=some B1∧B=B1.tr (mU B0 b)) ∨
      (¬ (b≤n∧n<b+16)∧(m0.get n).isSome=true∧n<B0 - 1∧∃ B1,c1.m n=some B1∧B=B1.tr (mU B0 b)) ∨
      (¬ (b≤n∧n<b+16)∧m0.get n=none∧c.m n=some B∧(kz=true→n∉Z)):=by
    intro n B hn
    by_cases hw:b≤n∧n<b+16
    · left
      by_cases h15:n<b+15
      · have hk:B0≤n - b+B0∧n - b+B0<B0+15:=by omega
        have hup:jR B0 b (n - b+B0)=n:=by rw [up2 _ hk]; omega
        have:=cm (n - b+B0) (.inr hk)
        rw [hup,hn,hfresh n hw.1 hw.2] at this
        refine ⟨hw.1,h15,?_⟩
        rw [c1m,m0none _ (by omega)]
        cases hl:lB e.2.1 (n - b+B0) with
        | none=>rw [hl] at this; simp at this
        | some x =>
          rw [hl] at this
          cases x with
          | none=>simp at this
          | some B1=>simp at this; exact ⟨B1,rfl,this⟩
      · have:=cmo n (fun p hp he=>by
          rcases upr p hp with ⟨q1,q2,_⟩ | ⟨q1,q2⟩ <;> omega)
        rw [this,hfresh n hw.1 hw.2] at hn; cases hn
    · right
      by_cases hs:(m0.get n).isSome=true
      · left
        obtain ⟨B1,hB1⟩:=G2.1 hs
        obtain ⟨q1,q2⟩:=h0 n B1 hB1
        refine ⟨hw,hs,q1,?_⟩
        have:=cm n (.inl q1)
        rw [up1 n q1,hn,hmk0 n B1 hB1,q2] at this
        rw [c1m,hB1]
        cases hl:lB e.2.1 n with
        | none=>rw [hl] at this; simp at this; exact ⟨B1,rfl,by rw [hid2 n B1 hB1]; exact this⟩
        | some x =>
          rw [hl] at this
          cases x with
          | none=>simp at this
          | some B2=>simp at this; exact ⟨B2,rfl,this⟩
      · right
        refine ⟨hw,by simpa using hs,hmk n B ?_⟩
        rw [← cmo n (fun p hp he=>by
          rcases upr p hp with ⟨q1,q2,q3⟩ | ⟨q1,q2⟩
          · rw [← he,q1] at hs; exact hs q3
          · omega)]
        exact hn
  -- names below are as they were
  have ρ0:∀ n,(m0.get n).isSome=true→c1.L n→c1.ρ n=c.ρ n:=by
    intro n hs hl
    obtain ⟨B,hB⟩:=G2.1 hs
    exact (s1.names n ⟨by have:=(h0 n B hB).1; omega,.inl hs⟩ hl).2
  have ρw:∀ n,b≤n∧n<b+16→c'.ρ n=c1.ρ (n - b+B0):=fun n hn=>by simp only [c',if_pos hn]
  have ρn:∀ n,¬ (b≤n∧n<b+16)→c'.ρ n=c.ρ n:=fun n hn=>by simp only [c',if_neg hn]
  have kindL:∀ n,c'.L n→(b≤n∧n<b+15∧c1.L (n - b+B0)∧c'.ρ n=c1.ρ (n - b+B0))∨(¬ (b≤n∧n<b+16)∧(m0.get n).isSome=true∧n<B0 - 1∧c1.L n∧c'.ρ n=c1.ρ n∧c.L n∧c'.ρ n=c.ρ n) ∨
      (¬ (b≤n∧n<b+16)∧m0.get n=none∧c.L n∧c'.ρ n=c.ρ n∧(kz=true→n∉Z)):=by
    intro n hn
    obtain ⟨B,hB⟩:=G2.1 hn
    rcases kinds n B hB with ⟨q1,q2,B1,q3,_⟩ | ⟨q1,q2,q3,B1,q4,_⟩ | ⟨q1,q2,q3,q4⟩
    · exact .inl ⟨q1,q2,by simp [Ctx.L,q3],ρw n ⟨q1,by omega⟩⟩
    · have hl:c1.L n:=by simp [Ctx.L,q4]
      obtain ⟨B2,hB2⟩:=G2.1 q2
      exact .inr (.inl ⟨q1,q2,q3,hl,by rw [ρn n q1,ρ0 n q2 hl],by simp [Ctx.L,(h0 n B2 hB2).2],ρn n q1⟩)
    · exact .inr (.inr ⟨q1,q2,by simp [Ctx.L,q3],ρn n q1,q4⟩)
  have own1:∀ n,c'.own n→c1.own n∨∃ g,c.L g∧m0.get g=none∧(kz=true→g∉Z)∧(c.ρ g).blk=n:=by
    rintro n ⟨g,q1,rfl⟩
    rcases kindL g q1 with ⟨_,_,q4,q5⟩ | ⟨_,_,_,q4,q5,_⟩ | ⟨_,q3,q4,q5,q6⟩
    · exact .inl ⟨_,q4,by rw [q5]⟩
    · exact .inl ⟨_,q4,by rw [q5]⟩
    · exact .inr ⟨g,q4,q3,q6,by rw [q5]⟩
  have hst:St c c':=by
    refine ⟨s1.os,s1.tape,s1.output,s1.size,fun n hn ho=>s1.keep n hn (fun q=>ho (hown0 n q)),rfl,fun n hn ho=>?_,fun n hn=>.inl hn,fun n hn hl=>?_⟩
    · rcases own1 n ho with q | ⟨g,q1,_,_,q2⟩
      · exact hown0 n (s1.own n hn q)
      · exact ⟨g,q1,q2⟩
    · have hnw:¬ (b≤n∧n<b+16):=fun hw=>hU n hw.1 hw.2 hn
      rcases kindL n hl with ⟨q1,q2,_⟩ | ⟨_,_,_,_,_,q6,q7⟩ | ⟨_,_,q4,q5,_⟩
      · omega
      · exact ⟨q6,q7⟩
      · exact ⟨q4,q5⟩
  let cF:Ctx:={ c1 with F:=fun n=>c1.F n∨kz=false∧∃ g,g∈Z∧c.L g∧(c.ρ g).blk=n }
  have hF1:∀ n,c.F n→c1.F n:=fun n hn=>by rw [s1.F]; exact .inl hn
  have hT2 : TrOk (mU B0 b) cF c':=by
    have nm:∀ g,c1.U g→c'.U (jR B0 b g)∧(c'.L (jR B0 b g)→c1.L g∧c'.ρ (jR B0 b g)=c1.ρ g):=by
      intro g hg
      have hdd:¬ c'.L (b+15):=fun hl=>by
        rcases kindL _ hl with ⟨q1,q2,_⟩ | ⟨q1,_⟩ | ⟨q1,_⟩ <;> omega
      have hc0:c0.U g∨B0≤g∧g<B0+16:=by
        rcases u1 g hg with q | q
        · exact .inr q
        · exact .inl q
      rcases hc0 with ⟨q1,q2 | q2⟩ | q
      · obtain ⟨B,hB⟩:=G2.1 q2
        obtain ⟨q3,q4⟩:=h0 g B hB
        rw [up1 g q3]
        have hcU:=hc.used g (by simp [Ctx.L,q4])
        refine ⟨.inl hcU,fun hl=>?_⟩
        have hnw:¬ (b≤g∧g<b+16):=fun hw=>hU g hw.1 hw.2 hcU
        rcases kindL g hl with ⟨p1,p2,_⟩ | ⟨_,_,_,p4,p5,_⟩ | ⟨_,p2,_⟩
        · omega
        · exact ⟨p4,p5⟩
        · rw [p2] at q2; cases q2
      · subst q2
        have:jR B0 b (B0 - 1)=b+15:=by unfold jR; rw [if_pos (by omega),if_pos rfl]
        rw [this]
        exact ⟨.inr ⟨by omega,by omega⟩,fun hl=>absurd hl hdd⟩
      · by_cases h15:g<B0+15
        · rw [up2 g ⟨q.1,h15⟩]
          refine ⟨.inr ⟨by omega,by omega⟩,fun hl=>?_⟩
          have e1:b+(g - B0) - b+B0=g:=by omega
          rcases kindL _ hl with ⟨_,_,p3,p4⟩ | ⟨p1,_⟩ | ⟨p1,_⟩
          · rw [e1] at p3 p4; exact ⟨p3,p4⟩
          · omega
          · omega
        · have:jR B0 b g=b+15:=by unfold jR; rw [if_neg (by omega),if_neg h15]
          rw [this]
          exact ⟨.inr ⟨by omega,by omega⟩,fun hl=>absurd hl hdd⟩
    refine ⟨fun g r o v hv=>?_,fun g l v hv=>?_,fun g v hv=>?_,fun _ _ _=>rfl,fun _ _=>rfl,fun _=>rfl,fun n hn ho hh=>?_,G1 _,fun _ _ _ _=>rfl⟩
    · cases hv with
      | ptr _ _ _ a q1 q2 =>
        obtain ⟨p1,p2⟩:=nm g q1
        refine .ptr _ _ _ a p1 fun hl=>?_
        obtain ⟨p3,p4⟩:=p2 hl
        rw [p4]; exact q2 p3
    · cases hv with
      | slm _ _ a n k q1 q2 =>
        obtain ⟨p1,p2⟩:=nm g q1
        refine .slm _ _ a n k p1 fun hl=>?_
        obtain ⟨p3,p4⟩:=p2 hl
        rw [p4]; exact q2 p3
    · cases hv with
      | mapm _ r q1 q2 =>
        obtain ⟨p1,p2⟩:=nm g q1
        refine .mapm _ r p1 fun hl=>?_
        obtain ⟨p3,p4⟩:=p2 hl
        rw [p4]; exact q2 p3
    · have hno:¬ c1.own n:=fun q=>ho (.inr q)
      have hnf:¬ cF.F n:=fun q=>ho (.inl q)
      rcases hh with q | q
      · exact hnf (.inl (hF1 n q))
      · rcases own1 n q with q | ⟨g,q1,q2,q3,q4⟩
        · exact hno q
        · by_cases hz:g∈Z
          · refine hnf (.inr ⟨?_,g,hz,q1,q4⟩)
            cases kz with
            | false=>rfl
            | true=>exact absurd hz (q3 rfl)
          · exact hnf (.inl (by rw [s1.F]; exact .inr ⟨g,q1,q2,hz,q4⟩))
  have toF:(kz=true∨Z=[])→cF.F=c1.F:=by
    intro hh
    funext n
    apply propext
    constructor
    · rintro (q | ⟨q1,g,q2,_⟩)
      · exact q
      · rcases hh with hh | hh
        · rw [q1] at hh; cases hh
        · rw [hh] at q2; cases q2
    · exact fun q=>.inl q
  have hcF:(kz=true∨Z=[])→cF=c1:=by
    intro hh
    have:=toF hh
    show ({ c1 with F:=cF.F }:Ctx)=c1
    rw [this]
  have vF:∀ v,VR c1 e.1 v→VR cF e.1 v:=by
    intro v hv
    rcases hfl with q | q | ⟨_,q,_⟩
    · rw [hcF (.inl q)]; exact hv
    · rw [hcF (.inr q)]; exact hv
    · exact VR.moreF (c:=c1) (c':=cF) rfl rfl rfl hv q
  have bF : ∀ n B ni o,c1.m n=some B→BlkOk c1 ni o B→BlkOk cF ni o B:=by
    intro n B ni o hB hok
    rcases hfl with q | q | ⟨q0,_,q⟩
    · rw [hcF (.inl q)]; exact hok
    · rw [hcF (.inr q)]; exact hok
    · refine BlkOk.moreF (c:=c1) (c':=cF) rfl rfl rfl hok ?_
      rw [c1m,q0] at hB
      cases hl:lB e.2.1 n with
      | none=>rw [hl] at hB; simp [J0] at hB
      | some x =>
        rw [hl] at hB
        simp at hB
        have : ∃ p,p∈e.2.1∧p.2=some B:=by
          have gen:∀ (l:List (Nat×Option Blk)) (acc:Option (Option Blk)),l.foldl (fun acc p=>if p.1=n then some p.2 else acc) acc=some x→acc=some x∨∃ p,p∈l∧p.2=x:=by
            intro l
            induction l with
            | nil=>intro acc h; exact .inl h
            | cons p l ih =>
              intro acc h
              simp only [N7] at h
              rcases ih _ h with h | ⟨r,r1,r2⟩
              · split at h
                · exact .inr ⟨p,J7 ..,E5 h⟩
                · exact .inl h
              · exact .inr ⟨r,H8 _ r1,r2⟩
          rcases gen _ _ hl with h | ⟨p,p1,p2⟩
          · cases h
          · exact ⟨p,p1,by rw [p2,hB]⟩
        obtain ⟨p,p1,p2⟩:=this
        exact q p p1 B p2
  have hgd:Gd c':=by
    refine Gd.mk' (fun n hn=>?_) (fun n n' hn hn' he=>?_) (fun n hn=>?_) (fun n hn=>?_) (fun n B hB=>?_) (fun n hn=>H5 (hc.flt n hn) s1.size)
    · rcases kindL n hn with ⟨_,_,q4,q5⟩ | ⟨_,_,_,q4,q5,_⟩ | ⟨_,q3,q4,q5,q6⟩ <;> rw [q5]
      · exact g1.lt _ q4
      · exact g1.lt _ q4
      · exact H5 (hc.lt n q4) s1.size
    · have WU:∀ k u,c1.L k→c.L u→m0.get u=none→(c1.ρ k).blk=(c.ρ u).blk→False:=by
        intro k u hk hu hu0 he
        exact hnone u hu hu0 (s1.own _ (hc.lt u hu) ⟨k,hk,he⟩)
      rcases kindL n hn with ⟨p1,p2,p4,p5⟩ | ⟨p1,p2,p3,p4,p5,p6,p7⟩ | ⟨p1,p3,p4,p5,p6⟩ <;> rcases kindL n' hn' with ⟨q1,q2,q4,q5⟩ | ⟨q1,q2,q3,q4,q5,q6,q7⟩ | ⟨q1,q3,q4,q5,q6⟩
      · rw [p5,q5] at he
        have:=g1.inj _ _ p4 q4 he
        omega
      · rw [p5,q5] at he
        have:=g1.inj _ _ p4 q4 he
        omega
      · rw [p5,q5] at he
        exact (WU _ _ p4 q4 q3 he).elim
      · rw [p5,q5] at he
        have:=g1.inj _ _ p4 q4 he
        omega
      · rw [p5,q5] at he
        exact g1.inj _ _ p4 q4 he
      · rw [p7,q5] at he
        exact hc.inj _ _ p6 q4 he
      · rw [p5,q5] at he
        exact (WU _ _ q4 p4 p3 he.symm).elim
      · rw [p5,q7] at he
        exact hc.inj _ _ p4 q6 he
      · rw [p5,q5] at he
        exact hc.inj _ _ p4 q4 he
    · rcases kindL n hn with ⟨_,_,q4,q5⟩ | ⟨_,_,_,q4,q5,_⟩ | ⟨_,q3,q4,q5,q6⟩ <;> rw [q5]
      · exact fun q=>g1.notF _ q4 (hF1 _ q)
      · exact fun q=>g1.notF _ q4 (hF1 _ q)
      · exact hc.notF n q4
    · rcases kindL n hn with ⟨q1,q2,_⟩ | ⟨_,_,_,_,_,q6,_⟩ | ⟨_,q3,q4,_⟩
      · exact .inr ⟨q1,by omega⟩
      · exact .inl (hc.used n q6)
      · exact .inl (hc.used n q4)
    · rcases kinds n B hB with ⟨q1,q2,B1,q3,rfl⟩ | ⟨q1,q2,q3,B1,q4,rfl⟩ | ⟨q1,q2,q3,q4⟩
      · obtain ⟨o,o1,o2⟩:=g1.blk q3
        rw [ρw n ⟨q1,by omega⟩]
        exact ⟨o,o1,(bF _ _ _ _ q3 o2).tr hT2⟩
      · obtain ⟨o,o1,o2⟩:=g1.blk q4
        rw [ρn n q1,← ρ0 n q2 (by simp [Ctx.L,q4])]
        exact ⟨o,o1,(bF _ _ _ _ q4 o2).tr hT2⟩
      · obtain ⟨o,o1,o2⟩:=hc.blk q3
        have hl:c.L n:=by simp [Ctx.L,q3]
        rw [ρn n q1]
        refine ⟨o,?_,o2.mono hst⟩
        have:=s1.keep (c.ρ n).blk (hc.lt n hl) (hnone n hl q2)
        show c1.w.heap[(c.ρ n).blk]?=some o
        rw [this]; exact o1
  refine ⟨c',z,rfl,rfl,hgd,hst,rfl,fun n hn=>?_,(vF z v1).tr hT2⟩
  rcases hn with q | q
  · exact .inr q
  · exact .inl q

theorem mS {kz:Bool} {f:FuncId} {args args':List AV} {e:Ef} {m0:AM} {B0:Nat} {m:Nat→Option Blk} {b:Nat} {Z:List Nat} (h:sD P f args e m0.get B0) (h1:1≤B0) (hb:B0≤b)
    (h0:∀ n B,m0.get n=some B→n<B0 - 1∧m n=some B) (hKs:∀ n,n∈m0.map (·.1)↔(m0.get n).isSome=true)
    (hcl:∀ T:Tr,(∀ g,(m0.get g).isSome=true→(∀ r o,T.p g r o=.ptr g r o)∧(∀ l,T.s g l=.slm g l)∧T.mp g=.mapm g)→∀ n B,m0.get n=some B→B.tr T=B)
    (hZ:∀ g,g∈Z→m0.get g=none∧∀ t sz rs,m g=some (.rows t sz rs)→puress rs=true) (hargs:trs (rI m (m0.map (·.1)) B0 Z) args'=args)
    (hups:∀ p,p∈e.2.1→p.1<B0+15∧(p.1<B0→(m0.get p.1).isSome=true)) (hfl:kz=true∨Z=[]∨m0=[]∧e.1.flat=true∧∀ p,p∈e.2.1→∀ B,p.2=some B→B.flat=true) :
    NA P f args' (e.1.tr (mU B0 b),lT kz Z ++ e.2.1.map (rG B0 b),m0.map (·.1) ++ Z) m b:=by
  intro m' hm'
  refine FW h h1 hb (fun n B hn=>⟨(h0 n B hn).1,?_⟩) hKs hcl (fun g hg=>⟨(hZ g hg).1,fun t sz rs hr=>(hZ g hg).2 t sz rs ?_⟩) ?_ hups hfl _
  · rw [hm' n (List.mem_append_left _ ((hKs n).2 (by rw [hn]; rfl)))]; exact (h0 n B hn).2
  · rw [← hm' g (X3 _ hg)]; exact hr
  · have : rI m' (m0.map (·.1)) B0 Z=rI m (m0.map (·.1)) B0 Z:=by
      unfold rI
      congr 1
      · funext g r o
        by_cases hg:Z.contains g=true
        · simp only [if_pos hg,vwP,hm' g (X3 _ (H6.1 hg))]
        · simp only [if_neg hg]
      · funext g l
        by_cases hg:Z.contains g=true
        · simp only [if_pos hg,vwS,hm' g (X3 _ (H6.1 hg))]
        · simp only [if_neg hg]
    rw [this]; exact hargs

def cX (P:Program) (f:FuncId) (args:List AV) (e:Ef):Prop:=sD P f args e (J0 []) 1

theorem AC.pure {kz:Bool} {f:FuncId} {args args':List AV} {e:Ef} {m:AM} {b:Nat} {κ:Ef→Prop} (Z:List Nat) (h:cX P f args e) (hb:1≤b) (hz:fS m Z=true) (hargs:trs (rI m.get [] 1 Z) args'=args)
    (hups:e.2.1.all (fun p=>decide (1≤p.1) && decide (p.1<16))=true) (hfl:kz=true∨Z=[]∨e.1.flat=true∧∀ p,p∈e.2.1→∀ B,p.2=some B→B.flat=true)
    (hκ:κ (e.1.tr (mU 1 b),lT kz Z ++ e.2.1.map (rG 1 b),Z)):AC P f args' m b κ:=by
  refine ⟨_,mS (kz:=kz) (m0:=[]) (Z:=Z) h (G1 1) hb (fun n B hn=>by cases hn) (fun n=>by simp [J0]) (fun T _ n B hn=>by cases hn) (fun g hg=>⟨rfl,fun t sz rs hr=>?_⟩) hargs (fun p hp=>?_) ?_,hκ⟩
  · have:=G4.1 hz g hg
    rw [hr] at this
    exact this
  · have:=G4.1 hups p hp
    simp only [D9,decide_eq_true_eq] at this
    exact ⟨by omega,fun h=>by omega⟩
  · rcases hfl with q | q | q
    · exact .inl q
    · exact .inr (.inl q)
    · exact .inr (.inr ⟨rfl,q⟩)
end
section
variable {P:Program} {κ:Ef→Prop} {env:List AV} {m:AM} {b:Nat}
def Ji:Option AV→(Ef→Prop)→Prop
  | some v,κ=>κ (v,[],[])
  | none,_=>False
theorem lH (x:Option AV):nJ (x.map fun v=>{ v:=v }) κ=Ji x κ:=by cases x <;> rfl
def QB:Option (List Nat)→Option AV→(Ef→Prop)→Prop
  | some rd,some v,κ=>κ (v,[],rd)
  | _,_,_=>False
theorem Lv (x:Option (List Nat)) (y:Option AV):nJ (x.bind fun rd=>y.map fun v=>{ v:=v,rd:=rd }) κ=QB x y κ:=by cases x <;> cases y <;> rfl
theorem v_mv (x:Opd):lK P (.mv x) κ env m b=κ (x.eval env,[],[]):=rfl
theorem v_ext (x:Opd) (i:Nat):lK P (.ext x i) κ env m b=Ji (doExt (x.eval env) i) κ:=lH _
theorem v_not (x:Opd):lK P (.not x) κ env m b=Ji (doNot (x.eval env)) κ:=lH _
theorem v_bin (op:BinOp) (x y:Opd):lK P (.bin op x y) κ env m b=Ji (uH op (x.eval env) (y.eval env)) κ:=lH _
theorem v_eqb (iM:Bool) (x y:Opd):lK P (.eqb iM x y) κ env m b=Ji (doEqb iM (x.eval env) (y.eval env)) κ:=lH _
theorem v_eqs (iM:Bool) (ks:List CK) (x y:Opd):lK P (.eqs iM ks x y) κ env m b=Ji (aP iM ks (x.eval env) (y.eval env)) κ:=lH _
theorem v_eqn (iM:Bool) (x:Opd):lK P (.eqn iM x) κ env m b=nJ (oI m.get iM (x.eval env)) κ:=rfl
theorem v_conv (k:IntKind) (x:Opd):lK P (.conv k x) κ env m b=Ji (Bl k (x.eval env)) κ:=lH _
theorem v_fld (o n:Nat) (g:Bool) (x:Opd):lK P (.fld o n g x) κ env m b=Ji (doFld o n g (x.eval env)) κ:=lH _
theorem v_build (z:List AV) (ps:List (Nat×Nat×Opd)):lK P (.build z ps) κ env m b=Ji (doBuild z (ps.map fun (o,n,x)=>(o,n,x.eval env))) κ:=lH _
theorem v_tassert (t:TypeId) (ok:Bool) (x:Opd):lK P (.tassert t ok x) κ env m b=Ji (kC t ok (x.eval env)) κ:=lH _
theorem v_mn (x y:Opd):lK P (.mn x y) κ env m b=Ji (Id (x.eval env) (y.eval env)) κ:=lH _
theorem v_mx (x y:Opd):lK P (.mx x y) κ env m b=Ji (Ie (x.eval env) (y.eval env)) κ:=lH _
theorem v_faddr (o:Nat) (x:Opd):lK P (.faddr o x) κ env m b=QB (lG m.get (x.eval env)) (oJ o (x.eval env)) κ:=Lv _ _
theorem v_aaddr (l z:Nat) (x i:Opd):lK P (.aaddr l z x i) κ env m b=QB (lG m.get (x.eval env)) (nH l z (x.eval env) (i.eval env)) κ:=Lv _ _
theorem v_nilchk (x:Opd):lK P (.nilchk x) κ env m b=QB (lG m.get (x.eval env)) (doNilchk (x.eval env)) κ:=Lv _ _
theorem v_iaddr (z:Nat) (x i:Opd):lK P (.iaddr z x i) κ env m b=nJ (eN m.get z (x.eval env) (i.eval env)) κ:=rfl
theorem v_slc (z:Nat) (x:Opd) (lo hi:Option Opd):lK P (.slc z x lo hi) κ env m b=nJ (lS m.get b z (x.eval env) (lo.map (·.eval env)) (hi.map (·.eval env))) κ:=rfl
theorem v_len (x:Opd):lK P (.len x) κ env m b=nJ (lD m.get (x.eval env)) κ:=rfl
theorem v_app (t:TypeId) (z y:Nat) (s x:Opd):lK P (.app t z y s x) κ env m b=nJ (doApp m.get b t z y (s.eval env) (x.eval env)) κ:=rfl
theorem v_cpy (z:Nat) (d s:Opd):lK P (.cpy z d s) κ env m b=nJ (wI m.get z (d.eval env) (s.eval env)) κ:=rfl
theorem v_ld (n:Nat) (g:Bool) (x:Opd):lK P (.ld n g x) κ env m b=nJ (cS m.get n g (x.eval env)) κ:=rfl
theorem v_st (n:Nat) (x v:Opd):lK P (.st n x v) κ env m b=nJ (cW m.get n (x.eval env) (v.eval env)) κ:=rfl
theorem v_lkp (z:AV) (ok:Bool) (p k:Opd):lK P (.lkp z ok p k) κ env m b=nJ (fM m.get z ok (p.eval env) (k.eval env)) κ:=rfl
theorem v_mupd (p k v:Opd):lK P (.mupd p k v) κ env m b=nJ (dV m.get (p.eval env) (k.eval env) (v.eval env)) κ:=rfl
theorem v_mdel (p k:Opd):lK P (.mdel p k) κ env m b=nJ (qL m.get (p.eval env) (k.eval env)) κ:=rfl
theorem v_alloc (t:TypeId) (z:List AV):lK P (.alloc t z) κ env m b=nJ (doBox b t z) κ:=rfl
theorem v_box (t:TypeId) (x:Opd):lK P (.box t x) κ env m b=nJ (doBox b t (x.eval env).cells) κ:=rfl
theorem v_bslice (t:TypeId) (z n:Nat) (ps:List Opd):lK P (.bslice t z n ps) κ env m b=nJ (bY b t z n (ps.map (·.eval env))) κ:=rfl
theorem v_mkslice (t:TypeId) (z:Nat) (o:List AV) (y:Nat) (l c:Opd):lK P (.mkslice t z o y l c) κ env m b=nJ (mA b t z o y (l.eval env) (c.eval env)) κ:=rfl
theorem v_mkfn (f:Fn) (x y:List Opd):lK P (.mkfn f x y) κ env m b=κ (.fn f (x.map (·.eval env)) (y.map (·.eval env)),[],[]):=rfl
theorem v_mkif (t:TypeId) (x:Opd):lK P (.mkif t x) κ env m b=κ (.iface t (x.eval env),[],[]):=rfl
theorem v_mkmap  : lK P (.mkmap) κ env m b=κ (.mapm b,[(b,some (.mp []))],[]):=rfl
theorem v_call (f:FuncId) (xs:List Opd):lK P (.call f xs) κ env m b=AC P f (xs.map (·.eval env)) m b κ:=rfl
theorem dW (x:Opd) (tb:List (Nat×Nat)) (xs:List Opd):lK P (.invoke x tb xs) κ env m b=Ca P tb (x.eval env) (xs.map (·.eval env)) m b κ:=rfl
theorem mO (a g t:Nat) (l:List (Nat×Nat)) (v:AV) (as:List AV):Ca P ((a,g) :: l) (.iface t v) as m b κ=if t=a then AC P g (v :: as) m b κ else Ca P l (.iface t v) as m b κ:=by
  by_cases h:t=a <;> simp [Ca,FV,h]
theorem v_callv (f:Opd) (xs:List Opd):lK P (.callv f xs) κ env m b=vY P (f.eval env) (xs.map (·.eval env)) m b κ:=rfl
theorem e_tmp (t:Nat):(Opd.tmp t).eval env=env.getD t .und:=rfl
theorem e_const (x:AV):(Opd.const x).eval env=x:=rfl
theorem e_func (f:FuncId):(Opd.func f).eval env=.fn (.func f) [] []:=rfl
theorem g_0 (x:AV) (l:List AV) (d:AV):(x :: l).getD 0 d=x:=rfl
theorem g_s (x:AV) (l:List AV) (n:Nat) (d:AV):(x :: l).getD (n+1) d=l.getD n d:=rfl
theorem p_none (x:AV):qX env none x=env:=rfl
theorem p_some (d:Nat) (x:AV):qX env (some d) x=env.set d x:=rfl
theorem s_0 (x y:AV) (l:List AV):(x :: l).set 0 y=y :: l:=rfl
theorem s_s (x y:AV) (l:List AV) (n:Nat):(x :: l).set (n+1) y=x :: l.set n y:=rfl
theorem nx (k:KE) (d:Option Nat) (v:AV) (u:List (Nat×Option Blk)) (rd:List Nat):AP k d env m b (v,u,rd)=k (qX env d v) (m.upd u) (b+16):=rfl
theorem u_nil:m.upd []=m:=rfl
theorem u_some (g:Nat) (B:Blk) (l:List (Nat×Option Blk)):m.upd ((g,some B) :: l)=(m.rep g B).upd l:=rfl
theorem u_none (g:Nat) (l:List (Nat×Option Blk)):m.upd ((g,none) :: l)=(m.del g).upd l:=rfl
theorem m_get_nil (n:Nat):J0 [] n=none:=rfl
theorem m_get_same (g:Nat) (B:Blk) (l:AM):J0 ((g,B) :: l) g=some B:=by simp [J0]
theorem m_get (g:Nat) (B:Blk) (l:AM) (n:Nat):J0 ((g,B) :: l) n=if n=g then some B else J0 l n:=rfl
theorem m_rep_nil (g:Nat) (B:Blk):AM.rep [] g B=[(g,B)]:=rfl
theorem m_rep (k:Nat) (B':Blk) (l:AM) (g:Nat) (B:Blk):AM.rep ((k,B') :: l) g B=if g=k then (k,B) :: l else (k,B') :: AM.rep l g B:=rfl
theorem m_del_nil (g:Nat):f6 [] g=[]:=rfl
theorem m_del (k:Nat) (B':Blk) (l:AM) (g:Nat):f6 ((k,B') :: l) g=if g=k then f6 l g else (k,B') :: f6 l g:=rfl
theorem k_some (r:OR):nJ (some r) κ=κ (r.v,r.ups,r.rd):=rfl
theorem kv_some (v:AV):Ji (some v) κ=κ (v,[],[]):=rfl
theorem lv_some (rd:List Nat) (v:AV):QB (some rd) (some v) κ=κ (v,[],rd):=rfl
theorem bin_int (op:BinOp) (k:IntKind) (x y:Int):uH op (.int k x) (.int k y)=uU op k x y:=by simp [uH]
theorem mn_int (k:IntKind) (x y:Int):Id (.int k x) (.int k y)=some (.int k (if y<x then y else x)):=by simp [Id]
theorem mx_int (k:IntKind) (x y:Int):Ie (.int k x) (.int k y)=some (.int k (if x<y then y else x)):=by simp [Ie]
theorem i_add (k:IntKind) (x y:Int):uU .add k x y=some (.int k (k.wrap (x+y))):=rfl
theorem i_sub (k:IntKind) (x y:Int):uU .sub k x y=some (.int k (k.wrap (x - y))):=rfl
theorem i_mul (k:IntKind) (x y:Int):uU .mul k x y=some (.int k (k.wrap (x * y))):=rfl
theorem i_eql (k:IntKind) (x y:Int):uU .eql k x y=some (.bool (decide (x=y))):=rfl
theorem i_neq (k:IntKind) (x y:Int):uU .neq k x y=some (.bool (!decide (x=y))):=rfl
theorem i_lss (k:IntKind) (x y:Int):uU .lss k x y=some (.bool (decide (x<y))):=rfl
theorem i_leq (k:IntKind) (x y:Int):uU .leq k x y=some (.bool (decide (x≤y))):=rfl
theorem i_gtr (k:IntKind) (x y:Int):uU .gtr k x y=some (.bool (decide (x > y))):=rfl
theorem i_geq (k:IntKind) (x y:Int):uU .geq k x y=some (.bool (decide (x≥y))):=rfl
theorem i_rem (k:IntKind) (x y:Int):uU .rem k x y=if y=0 then none else some (.int k (x.tmod y)):=rfl
theorem i_quo (k:IntKind) (x y:Int):uU .quo k x y=if y=0 then none else some (.int k (k.wrap (x.tdiv y))):=rfl
theorem c_bool (t:Bool) (x y:KE):Eb (.bool t) x y env m b=zB t x y env m b:=rfl
theorem c_true (x y:KE):zB true x y env m b=x env m b:=rfl
theorem c_false (x y:KE):zB false x y env m b=y env m b:=rfl
theorem aH {t:Bool} {x y:KE} (h1:t=true→x env m b) (h2:t=false→y env m b):zB t x y env m b:=by
  cases t
  · exact h2 rfl
  · exact h1 rfl
theorem bB {t:Bool} {op:AOp} (h1:t=true→lK P op κ env m b) (h2:t=false→κ (.tup [],[],[])):gT P t op κ env m b:=by
  cases t
  · exact h2 rfl
  · exact h1 rfl
theorem aQ {t:Bool} {op:AOp} (h1:t=false→lK P op κ env m b) (h2:t=true→κ (.tup [],[],[])):gT P (!t) op κ env m b:=by
  cases t
  · exact h1 rfl
  · exact h2 rfl
theorem aF {t:Bool} {x y:KE} (h1:t=false→x env m b) (h2:t=true→y env m b):zB (!t) x y env m b:=by
  cases t
  · exact h1 rfl
  · exact h2 rfl
def Oj:AV→AV→AV→(Ef→Prop)→Prop
  | .bool t,x,y,κ=>κ (if t then x else y,[],[])
  | _,_,_,_=>False
theorem v_pick (c x y:Opd):lK P (.pick c x y) κ env m b=Oj (c.eval env) (x.eval env) (y.eval env) κ:=by
  simp only [lK,aop]
  cases c.eval env <;> rfl
theorem pk_true (x y:AV):Oj (.bool true) x y κ=κ (x,[],[]):=rfl
theorem pk_false (x y:AV):Oj (.bool false) x y κ=κ (y,[],[]):=rfl
theorem pk_bb (t u v:Bool):Oj (.bool t) (.bool u) (.bool v) κ=κ (.bool (bif t then u else v),[],[]):=by cases t <;> rfl
theorem lf_ptr (f:Nat→Option Blk) (g r o:Nat):lG f (.ptr g r o)=if (f g).isSome then some [g] else none:=rfl
theorem lf_pv (f:Nat→Option Blk) (cs:List AV):lG f (.pv cs)=some []:=rfl
theorem lf_fn (f:Nat→Option Blk) (x:Fn) (a c:List AV):lG f (.fn x a c)=some []:=rfl
theorem fa_ptr (o g r k:Nat):oJ o (.ptr g r k)=some (.ptr g r (k+o)):=rfl
theorem fa_pv (o:Nat) (cs:List AV):oJ o (.pv cs)=some (.pv (cs.drop o)):=rfl
theorem r_nil (k:KE):xI P [] k env m b=k env m b:=rfl
theorem r_cons (d:Option Nat) (op:AOp) (af:List Nat) (rest:List AO) (k:KE):xI P (⟨d,op,none,af⟩ :: rest) k env m b=lK P op (AP (xI P rest k) d env m b) env m b:=rfl
theorem r_consg (d:Option Nat) (op:AOp) (s:Nat) (w:Bool) (af:List Nat) (rest:List AO) (k:KE):xI P (⟨d,op,some (s,w),af⟩ :: rest) k env m b=jW P (env.getD s .und) w op (AP (xI P rest k) d env m b) env m b:=rfl
theorem t_nil (un:List (Nat×Nat)) (k:KE) (tr:List Ef):vR P un [] k tr env m b=(dynOk un tr.reverse=true∧k env m b):=rfl
theorem t_cons (un:List (Nat×Nat)) (d:Option Nat) (op:AOp) (af:List Nat) (rest:List AO) (k:KE) (tr:List Ef):vR P un (⟨d,op,none,af⟩ :: rest) k tr env m b=lK P op (AQ (vR P un rest k) tr d env m b) env m b:=rfl
theorem t_consg (un:List (Nat×Nat)) (d:Option Nat) (op:AOp) (s:Nat) (w:Bool) (af:List Nat) (rest:List AO) (k:KE) (tr:List Ef):vR P un (⟨d,op,some (s,w),af⟩ :: rest) k tr env m b=jW P (env.getD s .und) w op (AQ (vR P un rest k) tr d env m b) env m b:=rfl
theorem nt (k:List Ef→KE) (tr:List Ef) (d:Option Nat) (v:AV) (u:List (Nat×Option Blk)) (rd:List Nat):AQ k tr d env m b (v,u,rd)=k ((v,u,rd) :: tr) (qX env d v) (m.upd u) (b+16):=rfl
theorem g_bool (t w:Bool) (op:AOp):jW P (.bool t) w op κ env m b=gT P (t == w) op κ env m b:=rfl
theorem g_tup (w:Bool) (op:AOp):jW P (.tup []) w op κ env m b=κ (.tup [],[],[]):=rfl
theorem gt_true (op:AOp):gT P true op κ env m b=lK P op κ env m b:=rfl
theorem gt_false (op:AOp):gT P false op κ env m b=κ (.tup [],[],[]):=rfl
theorem ck_fn (g:FuncId) (x y z:List AV):vY P (.fn (.func g) x y) z m b κ=AC P g (x ++ z ++ y) m b κ:=rfl
variable {b0:Nat} {K:KX}
theorem vc_skip:vc P b0 .skip K env m b=K .normal env m b:=rfl
theorem vc_ret:vc P b0 .ret K env m b=K .ret env m b:=rfl
theorem vc_exit (i:Nat):vc P b0 (.exit i) K env m b=K (.exit i) env m b:=rfl
theorem vc_seq (x y:ACode):vc P b0 (.seq x y) K env m b=vc P b0 x (Jw (vc P b0 y K) K) env m b:=rfl
theorem vc_block (i:Nat) (x:ACode):vc P b0 (.block i x) K env m b=vc P b0 x (rT i K) env m b:=rfl
theorem vc_cond (c:Opd) (x y:ACode):vc P b0 (.cond c x y) K env m b=Eb (c.eval env) (vc P b0 x K) (vc P b0 y K) env m b:=rfl
theorem vc_loop (x:ACode):vc P b0 (.loop x) K env m b=LP b0 (vc P b0 x) K env m b:=rfl
theorem vc_reg (ops:List AO):vc P b0 (.reg ops) K env m b=xI P ops (K .normal) env m b:=rfl
theorem vc_regT (ops:List AO) (un:List (Nat×Nat)):vc P b0 (.regT ops un) K env m b=vR P un ops (K .normal) [] env m b:=rfl
theorem th_normal (k:KE):Jw k K .normal env m b=k env m b:=rfl
theorem th_exit (k:KE) (i:Nat):Jw k K (.exit i) env m b=K (.exit i) env m b:=rfl
theorem th_ret (k:KE):Jw k K .ret env m b=K .ret env m b:=rfl
theorem ib_normal (i:Nat):rT i K .normal env m b=K .normal env m b:=rfl
theorem ib_exit (i j:Nat):rT i K (.exit j) env m b=if j=i then K .normal env m b else K (.exit j) env m b:=rfl
theorem ib_ret (i:Nat):rT i K .ret env m b=K .ret env m b:=rfl
variable {rs:List (Nat×Option (Nat×Bool))} {fin:AV→AM→Nat→Prop}
theorem rt_normal:gP rs fin .normal env m b=lO (resL env m.get rs) fin m b:=rfl
theorem rt_ret:gP rs fin .ret env m b=lO (resL env m.get rs) fin m b:=rfl
theorem rs_some (l:List AV):lO (some l) fin m b=fin (iF l) m b:=rfl
theorem rl_nil (f:Nat→Option Blk):resL env f []=some []:=rfl
theorem rl_cons (f:Nat→Option Blk) (t:Nat) (l:List (Nat×Option (Nat×Bool))):resL env f ((t,none) :: l)=(resL env f l).map (env.getD t .und :: ·):=by
  simp only [resL,Gz]
  cases resL env f l <;> rfl
theorem rl_cell (f:Nat→Option Blk) (t n:Nat) (g:Bool) (l:List (Nat×Option (Nat×Bool))):resL env f ((t,some (n,g)) :: l)=(cS f n g (env.getD t .und)).bind fun r=>(resL env f l).map (r.v :: ·):=by
  simp only [resL,Gz]
  cases cS f n g (env.getD t .und) <;> cases resL env f l <;> rfl
theorem one1_1 (x:AV):iF [x]=x:=rfl
theorem one1_2 (x y:AV) (l:List AV):iF (x :: y :: l)=.tup (x :: y :: l):=rfl
theorem one1_0:iF []=.tup []:=rfl
theorem bJ {v:AV} {e:Ef} (h1:e=(v,[],[])) (hb:(m.map (·.1)).Nodup) (hp:v.pure=true) (h0:∀ p,p∈m→1≤p.1):gM 1 [] e v m b:=by
  subst h1
  have hs:=SubS.step (b0:=1) (dead:=1) (Z:=[]) (σ:=[]) (env:=[v]) (m:=m) (b:=b) (by simp only [stOk]; simp [hb]) rfl
  have hm:∀ (T:Tr) (l:AM),(∀ p,p∈l→1≤p.1)→stM 1 1 [] [] T l=[]:=by
    intro T l
    induction l with
    | nil=>intro _; rfl
    | cons p l ih =>
      intro h
      have h1:=h p (J7 ..)
      obtain ⟨g,B⟩:=p
      simp only [stM]
      simp only [] at h1
      rw [if_neg (by simp),if_neg (by simp [lk]; omega)]
      exact ih fun q hq=>h q (H8 _ hq)
  rw [hm _ m h0] at hs
  simp only [trs,AV.tr_pure _ v hp] at hs
  exact ⟨v,[],2,hs,by omega,rfl,rfl⟩
end

theorem aY (n:Int):sF .i64 n↔-9223372036854775808≤n∧n≤9223372036854775807:=Iff.rfl
theorem bL {n:Int} (h:-9223372036854775808≤n) (h2:n≤9223372036854775807):IntKind.wrap .i64 n=n:=by rw [IntKind.wrap_i64]; omega

section
variable {α:Type} {enc:α→List AV}
theorem bQ (h:∀ x,pures (enc x)=true):∀ l:List α,puress (l.map enc)=true
  | []=>rfl
  | x :: l=>by simp only [N4,puress,h x,bQ h l,Y1]
theorem eB (T:Tr) (h:∀ x,pures (enc x)=true) (l:List α):trss T (l.map enc)=l.map enc:=pR T _ (bQ h l)
theorem Wz (l:List α) (i:Nat) (d:α) (h:i<l.length):(l.map enc).getD i []=enc (l.getD i d):=by
  simp [E6,h]
end

section
variable {P:Program} {κ:Ef→Prop} {env:List AV} {m:AM} {b:Nat}
theorem eK {α:Type} {enc:α→List AV} {l:List α} {d:α} {sz:Nat} {f:Nat→Option Blk} {k:IntKind} {i:Int} (h:0≤i∧i<l.length) (hk:κ (.pv (enc (l.getD i.toNat d)),[],[])) :
    nJ (eN f sz (.slv sz (l.map enc)) (.int k i)) κ:=by
  have h2:i.toNat<l.length:=by omega
  have h3:sz=sz∧0≤i∧i<(l.map enc).length:=⟨rfl,h.1,by simpa using h.2⟩
  have h4:eN f sz (.slv sz (l.map enc)) (.int k i)=some { v:=.pv (enc (l.getD i.toNat d)) }:=by
    unfold eN
    rw [← Wz (enc:=enc) l i.toNat d h2]
    exact if_pos h3
  rw [h4]
  exact hk
theorem len_enc {α:Type} {enc:α→List AV} (f:Nat→Option Blk) (sz:Nat) (l:List α):lD f (.slv sz (l.map enc))=some { v:=.int .i64 l.length }:=by simp [lD]

def IL (I:Nat→List AV→Prop) (n:Nat) (K:KX):KX
  | .normal,env,m,b=>(m.map (·.1)).Nodup∧(∀ p,p∈m→1≤p.1)∧∃ n',n'<n∧I n' (trs (stT 1 1 [] [] m) env)
  | .exit i,env,m,b=>K (.exit i) env m b
  | .ret,env,m,b=>K .ret env m b
theorem Ig {env:List AV} {m:AM} {b:Nat} (hb:(m.map (·.1)).Nodup) (h0:∀ p,p∈m→1≤p.1):SubS 1 env m b (trs (stT 1 1 [] [] m) env) [] 2:=by
  have hs:=SubS.step (b0:=1) (dead:=1) (Z:=[]) (σ:=[]) (env:=env) (m:=m) (b:=b) (by simp only [stOk]; simp [hb]) rfl
  have hm:∀ (T:Tr) (l:AM),(∀ p,p∈l→1≤p.1)→stM 1 1 [] [] T l=[]:=by
    intro T l
    induction l with
    | nil=>intro _; rfl
    | cons p l ih =>
      intro h
      have h1:=h p (J7 ..)
      obtain ⟨g,B⟩:=p
      simp only [stM]
      simp only [] at h1
      rw [if_neg (by simp),if_neg (by simp [lk]; omega)]
      exact ih fun q hq=>h q (H8 _ hq)
  rw [hm _ m h0] at hs
  exact hs
theorem Ao {b0:Nat}:∀ {ac:ACode} {K K':KX} {env:List AV} {m:AM} {b:Nat},(∀ e env m b,K e env m b→K' e env m b)→vc P b0 ac K env m b→vc P b0 ac K' env m b:=by
  have pm : ∀ {op:AOp} {κ κ':Ef→Prop} {env:List AV} {m:AM} {b:Nat},(∀ e,κ e→κ' e)→lK P op κ env m b→lK P op κ' env m b:=by
    intro op κ κ' env m b h hv
    unfold lK at hv ⊢
    split at hv
    · obtain ⟨e,h1,h2⟩:=hv; exact ⟨e,h1,h _ h2⟩
    · unfold vY at hv
      split at hv
      · rename_i heq
        obtain ⟨e,h1,h2⟩:=hv
        simp only [heq,vY]
        exact ⟨e,h1,h _ h2⟩
      · exact hv.elim
    · unfold Ca at hv
      split at hv
      · rename_i heq
        split at hv
        · rename_i hg
          obtain ⟨e,h1,h2⟩:=hv
          simp only [heq,Ca,hg]
          exact ⟨e,h1,h _ h2⟩
        · exact hv.elim
      · exact hv.elim
    · rename_i hn1 hn2 hn3
      unfold nJ at hv
      split at hv
      · rename_i r hr; rw [hr]; exact h _ hv
      · exact hv.elim
  have gm:∀ {g:Option (Nat×Bool)} {op:AOp} {κ κ':Ef→Prop} {env:List AV} {m:AM} {b:Nat},(∀ e,κ e→κ' e)→gK P g op κ env m b→gK P g op κ' env m b:=by
    intro g op κ κ' env m b h hv
    cases g with
    | none=>exact pm h hv
    | some p =>
      obtain ⟨s,w⟩:=p
      simp only [gK] at hv ⊢
      cases hx:env.getD s .und with
      | bool t =>
        rw [hx] at hv
        simp only [jW] at hv ⊢
        cases htw:(t == w) with
        | true=>rw [htw] at hv; exact pm h hv
        | false=>rw [htw] at hv; exact h _ hv
      | tup l =>
        rw [hx] at hv
        cases l with
        | nil=>exact h _ hv
        | cons x l=>exact hv.elim
      | _=>rw [hx] at hv; exact hv.elim
  have rm:∀ {ops:List AO} {k k':KE} {env:List AV} {m:AM} {b:Nat},(∀ env m b,k env m b→k' env m b)→xI P ops k env m b→xI P ops k' env m b:=by
    intro ops
    induction ops with
    | nil=>intro k k' env m b h hv; exact h _ _ _ hv
    | cons o rest ih =>
      intro k k' env m b h hv
      exact gm (fun e he=>ih h he) hv
  have tm:∀ {un:List (Nat×Nat)} {ops:List AO} {k k':KE} {tr:List Ef} {env:List AV} {m:AM} {b:Nat},(∀ env m b,k env m b→k' env m b)→vR P un ops k tr env m b→vR P un ops k' tr env m b:=by
    intro un ops
    induction ops with
    | nil=>intro k k' tr env m b h hv; exact ⟨hv.1,h _ _ _ hv.2⟩
    | cons o rest ih =>
      intro k k' tr env m b h hv
      exact gm (fun e he=>ih h he) hv
  intro ac
  induction ac with
  | skip=>intro K K' env m b h hv; exact h _ _ _ _ hv
  | ret=>intro K K' env m b h hv; exact h _ _ _ _ hv
  | exit i=>intro K K' env m b h hv; exact h _ _ _ _ hv
  | seq x y ihx ihy =>
    intro K K' env m b h hv
    refine ihx (fun e env m b he=>?_) hv
    cases e with
    | normal=>exact ihy h he
    | exit i=>exact h _ _ _ _ he
    | ret=>exact h _ _ _ _ he
  | block i x ih =>
    intro K K' env m b h hv
    refine ih (fun e env m b he=>?_) hv
    cases e with
    | normal=>exact h _ _ _ _ he
    | exit j =>
      simp only [rT] at he ⊢
      split
      · rename_i hj; rw [if_pos hj] at he; exact h _ _ _ _ he
      · rename_i hj; rw [if_neg hj] at he; exact h _ _ _ _ he
    | ret=>exact h _ _ _ _ he
  | cond q x y ihx ihy =>
    intro K K' env m b h hv
    simp only [vc] at hv ⊢
    cases hx:q.eval env with
    | bool t =>
      rw [hx] at hv
      cases t with
      | true=>exact ihx h hv
      | false=>exact ihy h hv
    | _=>rw [hx] at hv; exact hv.elim
  | loop x ih =>
    intro K K' env m b h hv
    obtain ⟨I,h1,h2⟩:=hv
    refine ⟨I,h1,fun n env m b hb hI=>ih (fun e env m b he=>?_) (h2 n env m b hb hI)⟩
    cases e with
    | normal=>exact he
    | exit i=>exact h _ _ _ _ he
    | ret=>exact h _ _ _ _ he
  | reg ops=>intro K K' env m b h hv; exact rm (fun env m b hk=>h _ _ _ _ hk) hv
  | regT ops un=>intro K K' env m b h hv; exact tm (fun env m b hk=>h _ _ _ _ hk) hv

theorem QA {ac:ACode} {K:KX} (I:Nat→List AV→Prop) (hb:(m.map (·.1)).Nodup) (h0:∀ p,p∈m→1≤p.1) (hI:∃ n,I n (trs (stT 1 1 [] [] m) env)) (hr:∀ n env,I n env→vc P 1 ac (IL I n K) env [] 2):LP 1 (vc P 1 ac) K env m b:=by
  obtain ⟨n,hn⟩:=hI
  refine ⟨fun n env m b=>m=[]∧b=2∧I n env,⟨n,_,[],2,Ig hb h0,by omega,rfl,rfl,hn⟩,fun n env m b _ hI=>?_⟩
  obtain ⟨rfl,rfl,hI⟩:=hI
  refine Ao (fun e env m b he=>?_) (hr n env hI)
  cases e with
  | normal =>
    obtain ⟨q1,q2,n',q3,q4⟩:=he
    exact ⟨n',_,[],2,q3,Ig q1 q2,by omega,rfl,rfl,q4⟩
  | exit i=>exact he
  | ret=>exact he
def Mt:List (Option AV)→List AV→Prop
  | [],[]=>True
  | some x :: p,y :: e=>y=x∧Mt p e
  | none :: p,_ :: e=>Mt p e
  | _,_=>False
def vW:List (Option AV)→(List AV→Prop)→Prop
  | [],Q=>Q []
  | some x :: p,Q=>vW p fun e=>Q (x :: e)
  | none :: p,Q=>∀ a,vW p fun e=>Q (a :: e)
theorem Mt.all:∀ {p:List (Option AV)} {Q:List AV→Prop} {e:List AV},vW p Q→Mt p e→Q e
  | [],Q,[],h,_=>h
  | some x :: p,Q,y :: e,h,hm=>by
    obtain ⟨rfl,hm⟩:=hm
    exact Mt.all (p:=p) (Q:=fun e=>Q (y :: e)) h hm
  | none :: p,Q,y :: e,h,hm=>Mt.all (p:=p) (Q:=fun e=>Q (y :: e)) (h y) hm
theorem mt_nil:Mt [] []=True:=rfl
theorem mt_some (x y:AV) (p:List (Option AV)) (e:List AV):Mt (some x :: p) (y :: e)=(y=x∧Mt p e):=rfl
theorem mt_none (y:AV) (p:List (Option AV)) (e:List AV):Mt (none :: p) (y :: e)=Mt p e:=rfl
theorem all_nil (Q:List AV→Prop):vW [] Q=Q []:=rfl
theorem dL (x:AV) (p:List (Option AV)) (Q:List AV→Prop):vW (some x :: p) Q=vW p fun e=>Q (x :: e):=rfl
theorem dK (p:List (Option AV)) (Q:List AV→Prop):vW (none :: p) Q=∀ a,vW p fun e=>Q (a :: e):=rfl
def RS {σ:Type} (pat:σ→List (Option AV)) (J:σ→Prop) (μ:σ→Nat) (s:σ) (env:List AV) (m:AM):Prop :=
  (m.map (·.1)).Nodup∧(∀ p,p∈m→1≤p.1)∧∃ s',μ s'<μ s∧J s'∧Mt (pat s') (trs (stT 1 1 [] [] m) env)
def Of {σ:Type} (pat:σ→List (Option AV)) (J:σ→Prop) (μ:σ→Nat) (s:σ) (K:KX):KX
  | .normal,env,m,b=>RS pat J μ s env m
  | .exit i,env,m,b=>K (.exit i) env m b
  | .ret,env,m,b=>K .ret env m b
theorem ls_normal {σ:Type} (pat:σ→List (Option AV)) (J:σ→Prop) (μ:σ→Nat) (s:σ) (K:KX):Of pat J μ s K .normal env m b=RS pat J μ s env m:=rfl
theorem ls_exit {σ:Type} (pat:σ→List (Option AV)) (J:σ→Prop) (μ:σ→Nat) (s:σ) (K:KX) (i:Nat):Of pat J μ s K (.exit i) env m b=K (.exit i) env m b:=rfl
theorem ls_ret {σ:Type} (pat:σ→List (Option AV)) (J:σ→Prop) (μ:σ→Nat) (s:σ) (K:KX):Of pat J μ s K .ret env m b=K .ret env m b:=rfl
theorem xD {σ:Type} {pat:σ→List (Option AV)} {J:σ→Prop} {μ:σ→Nat} {s:σ} (s':σ) (h1:(m.map (·.1)).Nodup) (h2:∀ p,p∈m→1≤p.1) (h3:μ s'<μ s) (h4:J s') (h5:Mt (pat s') (trs (stT 1 1 [] [] m) env)):RS pat J μ s env m:=⟨h1,h2,s',h3,h4,h5⟩
theorem xA {σ:Type} {ac:ACode} {K:KX} (pat:σ→List (Option AV)) (J:σ→Prop) (μ:σ→Nat) (s0:σ) (hb:(m.map (·.1)).Nodup) (h0:∀ p,p∈m→1≤p.1) (hJ:J s0) (hM:Mt (pat s0) (trs (stT 1 1 [] [] m) env))
    (hr:∀ s,J s→vW (pat s) fun env=>vc P 1 ac (Of pat J μ s K) env [] 2):LP 1 (vc P 1 ac) K env m b:=by
  refine QA (fun n env=>∃ s,n=μ s∧J s∧Mt (pat s) env) hb h0 ⟨_,s0,rfl,hJ,hM⟩ ?_
  rintro n env ⟨s,rfl,h1,h2⟩
  refine Mt.all (Q:=fun env=>vc P 1 ac (IL _ (μ s) K) env [] 2) ?_ h2
  have gen:∀ (p:List (Option AV)) (Q Q':List AV→Prop),(∀ e,Q e→Q' e)→vW p Q→vW p Q':=by
    intro p
    induction p with
    | nil=>intro Q Q' h hq; exact h _ hq
    | cons x p ih =>
      intro Q Q' h hq
      cases x with
      | none=>exact fun a=>ih _ _ (fun e=>h _) (hq a)
      | some x=>exact ih _ _ (fun e=>h _) hq
  refine gen _ _ _ (fun env hv=>Ao (fun e env m b he=>?_) hv) (hr s h1)
  cases e with
  | normal =>
    obtain ⟨q1,q2,s',q3,q4,q5⟩:=he
    exact ⟨q1,q2,μ s',q3,s',rfl,q4,q5⟩
  | exit i=>exact he
  | ret=>exact he
theorem AC.p0 {f:FuncId} {args:List AV} {v:AV} (h:cX P f args (v,[],[])) (hb:1≤b) (hp:pures args=true) (hv:v.pure=true) (hκ:κ (v,[],[])):AC P f args m b κ:=by
  refine AC.pure (kz:=false) [] h hb rfl (dQ _ _ hp) rfl (.inr (.inl rfl)) ?_
  show κ (v.tr _,[],[])
  rw [AV.tr_pure _ _ hv]
  exact hκ
theorem AC.pv {f:FuncId} {args args':List AV} {v:AV} (Z:List Nat) (h:cX P f args (v,[],[])) (hargs:trs (rI m.get [] 1 Z) args'=args) (hb:1≤b) (hz:fS m Z=true) (hf:v.flat=true) (hv:v.pure=true) (hκ:κ (v,[],Z)):AC P f args' m b κ:=by
  refine AC.pure (kz:=false) Z h hb hz hargs rfl (.inr (.inr ⟨hf,fun p hp=>by cases hp⟩)) ?_
  show κ (v.tr _,[],Z)
  rw [AV.tr_pure _ _ hv]
  exact hκ
theorem AC.pk {f:FuncId} {args args':List AV} {v:AV} (Z:List Nat) (h:cX P f args (v,[],[])) (hargs:trs (rI m.get [] 1 Z) args'=args) (hb:1≤b) (hz:fS m Z=true) (hv:v.pure=true) (hκ:κ (v,Z.map fun g=>(g,none),Z)):AC P f args' m b κ:=by
  refine AC.pure (kz:=true) Z h hb hz hargs rfl (.inl rfl) ?_
  simp only [lT,if_true,T6,N3,AV.tr_pure _ _ hv]
  exact hκ
def ACV (P:Program) (f:FuncId) (args:List AV) (Z:List Nat) (κ:Ef→Prop):Prop:=∃ v:AV,cX P f args (v,[],[])∧v.flat=true∧v.pure=true∧κ (v,[],Z)
def ACK (P:Program) (f:FuncId) (args:List AV) (Z:List Nat) (κ:Ef→Prop):Prop:=∃ v:AV,cX P f args (v,[],[])∧v.pure=true∧κ (v,Z.map fun g=>(g,none),Z)
theorem AC.view {f:FuncId} {args:List AV} (Z:List Nat) (hb:1≤b) (hz:fS m Z=true) (h:ACV P f (trs (rI m.get [] 1 Z) args) Z κ):AC P f args m b κ:=by
  obtain ⟨v,h1,h2,h3,h4⟩:=h
  exact AC.pv Z h1 rfl hb hz h2 h3 h4
theorem AC.viewAll {f:FuncId} {args:List AV} (hb:1≤b) (hz:fS m (m.map (·.1))=true) (h:ACV P f (trs (rI m.get [] 1 (m.map (·.1))) args) (m.map (·.1)) κ):AC P f args m b κ:=AC.view _ hb hz h
theorem ACV.of {f:FuncId} {args:List AV} {Z:List Nat} {v:AV} (h:cX P f args (v,[],[])) (hf:v.flat=true) (hv:v.pure=true) (hκ:κ (v,[],Z)):ACV P f args Z κ:=⟨v,h,hf,hv,hκ⟩
theorem ACK.of {f:FuncId} {args:List AV} {Z:List Nat} {v:AV} (h:cX P f args (v,[],[])) (hv:v.pure=true) (hκ:κ (v,Z.map fun g=>(g,none),Z)):ACK P f args Z κ:=⟨v,h,hv,hκ⟩
theorem zp_nil:fS m []=true:=rfl
theorem zp_cons (g:Nat) (Z:List Nat):fS m (g :: Z)=((match m.get g with | some b=>jG b | none=>true) && fS m Z):=rfl
theorem pb_rows (t sz:Nat) (rs:List (List AV)):jG (.rows t sz rs)=puress rs:=rfl
theorem aR {c:Prop} [Decidable c] {x:Option AV} (h:¬ c) (hk:Ji x κ):Ji (if c then none else x) κ:=by rw [if_neg h]; exact hk
theorem bC {c:Prop} [Decidable c] {x:Option AV} (h:c) (hk:Ji x κ):Ji (if c then x else none) κ:=by rw [if_pos h]; exact hk
theorem bM {c:Prop} [Decidable c] {x:Option OR} (h:c) (hk:nJ x κ):nJ (if c then x else none) κ:=by rw [if_pos h]; exact hk
theorem vwt_s (f:Nat→Option Blk) (Kn:List Nat) (B0:Nat) (Z:List Nat) (g l:Nat):(rI f Kn B0 Z).s g l=if Z.contains g then vwS f (B0 - 1) g l else .slm (if Kn.contains g then g else B0 - 1) l:=rfl
theorem vwt_p (f:Nat→Option Blk) (Kn:List Nat) (B0:Nat) (Z:List Nat) (g r o:Nat):(rI f Kn B0 Z).p g r o=if Z.contains g then vwP f (B0 - 1) g r o else .ptr (if Kn.contains g then g else B0 - 1) r o:=rfl
theorem vwt_m (f:Nat→Option Blk) (Kn:List Nat) (B0:Nat) (Z:List Nat) (g:Nat):(rI f Kn B0 Z).mp g=.mapm (if Z.contains g then B0 - 1 else if Kn.contains g then g else B0 - 1):=rfl
theorem stt_s (b0 d:Nat) (Z:List Nat) (ren:List (Nat×Nat)) (mm:AM) (g l:Nat):(stT b0 d Z ren mm).s g l=if Z.contains g then frzS d mm g l else .slm (nameT b0 d ren g) l:=rfl
theorem stt_p (b0 d:Nat) (Z:List Nat) (ren:List (Nat×Nat)) (mm:AM) (g r o:Nat):(stT b0 d Z ren mm).p g r o=if Z.contains g then frzP d mm g r o else .ptr (nameT b0 d ren g) r o:=rfl
theorem stt_m (b0 d:Nat) (Z:List Nat) (ren:List (Nat×Nat)) (mm:AM) (g:Nat):(stT b0 d Z ren mm).mp g=.mapm (if Z.contains g then d else nameT b0 d ren g):=rfl
end

theorem bI:maxLen=9223372036854775807:=rfl
theorem iA {α:Type} {l:List α} {i:Nat} {d:α} (h:i<l.length):l.getD i d∈l:=by
  rw [E6,F9 h]
  exact X8 h
def aS (n:Int):List AV:=[.int .i64 n]
theorem pure_encI (n:Int):pures (aS n)=true:=rfl

def wS {α:Type} (p:α→Bool) (l:List α):Int:=match l.findIdx? p with
  | some i=>i
  | none=>-1
theorem mB {α:Type} {p:α→Bool} {l:List α} {d:α} {i:Nat} (h1:i<l.length) (h2:∀ j,j<i→p (l.getD j d)=false) (h3:p (l.getD i d)=true):wS p l=i:=by
  have:l.findIdx? p=some i:=by
    rw [S5]
    refine ⟨h1,by simpa [E6,h1] using h3,fun j hj=>?_⟩
    have:=h2 j hj
    have hjl:j<l.length:=by omega
    simpa [E6,hjl] using this
  simp [wS,this]
theorem nN {α:Type} {p:α→Bool} {l:List α} {d:α} (h2:∀ j,j<l.length→p (l.getD j d)=false):wS p l=-1:=by
  have:l.findIdx? p=none:=by
    rw [V0]
    intro x hx
    obtain ⟨j,hj,rfl⟩:=List.getElem_of_mem hx
    have:=h2 j hj
    simpa [E6,hj] using this
  simp [wS,this]
theorem bE {α:Type} {p:α→Bool} {l:List α}:decide (wS p l≥0)=l.any p:=by
  unfold wS
  cases h:l.findIdx? p with
  | none =>
    have:=V0.1 h
    symm
    simpa using this
  | some i =>
    obtain ⟨h1,h2,_⟩:=S5.1 h
    have:l.any p=true:=List.any_eq_true.2 ⟨_,X8 h1,h2⟩
    rw [this]; simp
structure Word where
  h:Int
  t:Int
  m:Int
  deriving DecidableEq
def hX (w:Word):List AV:=[.int .i64 w.h,.int .i64 w.t,.int .i64 w.m]

def iN (w:Word):Int:=if (w.h=0∧w.t=0∧w.m=0)∨w.t≤w.h then 0 else if w.h<0∧w.t > 9223372036854775807+w.h then 9223372036854775807 else w.t - w.h
def oP (w:Word) (room:Int):Bool:=decide (iN w≥room)
def cD (n low high:Int):Bool:=decide (n≥low) && decide (n≤high)
def cT (w:Word) (room:Int):Bool:=cD w.t w.h 1099511627776 && decide (w.h≥0) && decide (iN w≤room) && cD w.m 0 2
def Jl (p room:Int):Bool:=decide (p≥0) && decide (room≥1)
def iI (p room:Int):Int:=if Jl p room then p.tmod room else 0

theorem kV (p room:Int) (h:0≤p):0≤iI p room:=by
  unfold iI; split
  · exact Int.tmod_nonneg _ h
  · exact Int.le_refl 0
theorem kU (p room:Int) (h:1≤room):iI p room<room:=by
  unfold iI; split
  · exact Int.tmod_lt_of_pos _ (by omega)
  · omega
def oU (w:Word) (room:Int):Bool:=decide (w.m=2) || !cT w room
def jQ (w:Word) (room:Int):Word×Int×Int :=
  if oU w room then (w,0,7) else if w.m=1 then (w,0,6) else if oP w room∨w.t=1099511627776 then (w,0,2) else (⟨w.h,w.t+1,w.m⟩,w.t,1)
def kG (w:Word) (room:Int):Word×Int×Int :=
  if oU w room then (w,0,7) else if iN w > 0 then (⟨w.h+1,w.t,w.m⟩,w.h,1) else if w.m=1 then (w,0,6) else (w,0,4)
def tH (w:Word) (room:Int):Int×Int:=((jQ w room).2.2,(kG w room).2.2)
def rJ (w:Word) (room head:Int):Word×Bool :=
  if ¬ (w.h=head∧w.m=0)∨oU w room∨¬ oP w room∨iN w=0 then (w,false) else (⟨w.h+1,w.t,w.m⟩,true)
def Db (w:Word) (mode:Int):Word:=if mode=1∨mode=2 then ⟨w.h,w.t,if w.m<mode then mode else w.m⟩ else w

def kJ (k:Int):Int:=if k=1∨k=2∨k=3 then 1 else if k=4∨k=5∨k=6 then 2 else if k=7∨k=8 then 3 else 0
def lI (k:Int):Bool:=decide (kJ k > 0)
def iE (k:Int):Bool:=decide (k=3) || decide (k=6)
def uJ (threads:Int) (single:Bool) (id k:Int):Int:=if id<0∨id≥threads then 123 else if ¬ lI k then 190 else if single∧kJ k=2∧id > 0 then 123 else 0

def Ce (x:Int):Bool:=decide (x<0) || decide (x≥16)

def lU:List Int→List Int→List Int
  | out,[]=>out
  | out,x :: xs=>lU (if out.any (fun y=>decide (x=y)) then out else out ++ [x]) xs
def gX (l:List Int):Bool:=!l.any Ce && decide ((lU [] l).length=l.length)
def gY (l:List Int) (id:Int):Int:=if gX l then wS (fun y=>decide (id=y)) l else -1
def iC (l:List Int) (id:Int):List Int×Int:=if ¬ gX l∨¬ gX [id] then (l,40) else if gY l id≥0 then (l,60) else (l ++ [id],0)
def pM (l:List Int):Int×List Int×Bool:=if ¬ gX l∨l.length=0 then (0,l,false) else (l.getD 0 default,l.drop 1,true)
theorem Xt:∀ (l out:List Int),(lU out l).length≤out.length+l.length
  | [],out=>by simp [lU]
  | x :: xs,out=>by
    simp only [lU]
    have:=Xt xs (if out.any (fun y=>decide (x=y)) then out else out ++ [x])
    split at this <;> split <;> simp_all <;> omega
theorem tV (l out:List Int) (i:Nat) (h:i<l.length):lU out (l.drop i)=lU (if out.any (fun y=>decide (l.getD i default=y)) then out else out ++ [l.getD i default]) (l.drop (i+1)):=by
  rw [List.drop_eq_getElem_cons h,lU]
  simp [E6,h]

structure Thread where
  st:Int
  kind:Int
  val:Int
  untl:Int
  pc:Int
  reg:Int
  seen:Int
  tries:Int
  late:Bool
  res:Int
  got:Int
  deriving DecidableEq
def bH (t:Thread):List AV:=[.int .i64 t.st,.int .i64 t.kind,.int .i64 t.val,.int .i64 t.untl,.int .i64 t.pc,.int .i64 t.reg,.int .i64 t.seen,.int .i64 t.tries,.bool t.late,.int .i64 t.res,.int .i64 t.got]
instance:Inhabited Thread:=⟨⟨0,0,0,0,0,0,0,0,false,0,0⟩⟩
theorem len_encT (t:Thread):(bH t).length=11:=rfl
theorem mG (t:Thread):(bH t).take 11=bH t:=rfl
theorem pure_encT (t:Thread):pures (bH t)=true:=rfl
def xF (t:Thread):Thread:=⟨0,t.kind,t.val,t.untl,0,0,0,0,false,t.res,t.got⟩
def nC (t:Thread):Bool:=lI t.kind || (decide (t.kind=0) && decide (t.st=0))
def nE (t:Thread):Bool:=cD t.untl 0 1099511627776 && (iE t.kind || (decide (t.untl=0) && !t.late))
def jN (t:Thread):Bool:=cD t.pc 0 11 && cD t.tries 0 1099511627776 && cD t.reg 0 1099511627776 && cD t.seen (-1) 1099511627776
def cZ (t:Thread):Bool:=cD t.st 0 2 && cD t.res 0 7 && nC t && nE t && jN t && (decide (t.st≠0) || decide (t=xF t))
def kB (t:Thread):Int:=if t.st=0 then 121 else if t.st=2 then 122 else 0
def jA (t:Thread) (kind val untl:Int):Thread×Int :=
  if t.st≠0 then (t,120) else if ¬ lI kind then (t,190) else if iE kind∧¬ cD untl 0 1099511627776 then (t,50) else (⟨1,kind,val,if iE kind then untl else 0,0,0,0,0,false,0,0⟩,0)
def Cw (t:Thread) (pc:Int):Thread×Int:=if kB t≠0 then (t,kB t) else ({ t with st:=2,pc:=pc,tries:=0 },0)
def oR (t:Thread):Thread:=if t.st=2 then { t with st:=1 } else t
def xG (t:Thread):Thread×Int:=if kB t≠0 then (t,kB t) else (xF t,0)

structure Slot where
  stamp:Int
  val:Int
  deriving DecidableEq
instance:Inhabited Slot:=⟨⟨0,0⟩⟩
def cU (s:Slot):List AV:=[.int .i64 s.stamp,.int .i64 s.val]
theorem len_encS (t:Slot):(cU t).length=2:=rfl
theorem mF (t:Slot):(cU t).take 2=cU t:=rfl
theorem pure_encS (t:Slot):pures (cU t)=true:=rfl
structure Entry where
  thr:Int
  kind:Int
  val:Int
  res:Int
  got:Int
  deriving DecidableEq
instance:Inhabited Entry:=⟨⟨0,0,0,0,0⟩⟩
def cO (e:Entry):List AV:=[.int .i64 e.thr,.int .i64 e.kind,.int .i64 e.val,.int .i64 e.res,.int .i64 e.got]
theorem wW (t:Entry):(cO t).length=5:=rfl
theorem uB (t:Entry):(cO t).take 5=cO t:=rfl
theorem pure_encE (t:Entry):pures (cO t)=true:=rfl
def vP (l:List Slot) (j:Nat):Bool:=decide (0≤(l.getD j default).stamp) && decide ((l.getD j default).stamp≤2199023255552) && decide (iI (l.getD j default).stamp l.length=j)
def dA (l:List Slot):Bool:=(Q2 l.length).all (vP l) && decide (l.length≥1) && decide (l.length≤64)
theorem Yz {n:Nat} {p:Nat→Bool} (h:∀ j,j<n→p j=true):(Q2 n).all p=true:=G4.2 fun j hj=>h j (R2.1 hj)
theorem Yy {n i:Nat} {p:Nat→Bool} (hi:i<n) (h:p i=false):(Q2 n).all p=false:=by
  cases hh:(Q2 n).all p with
  | false=>rfl
  | true=>have:=G4.1 hh i (R2.2 hi); rw [h] at this; cases this
def hP (l:List Slot) (p:Int):Bool:=decide (p≥0) && dA l && decide ((l.getD (iI p l.length).toNat default).stamp=p)

structure Event where
  ep:Int
  ln:List Int
  deriving DecidableEq
instance:Inhabited Event:=⟨⟨0,[]⟩⟩
def dO (e:Event):List AV:=[.int .i64 e.ep,.slv 1 (e.ln.map aS)]
def eZ (e:Event):Bool:=decide (e.ep≥0) && decide (e.ep≤1099511627776) && gX e.ln
def oC (e:Event):Int:=if eZ e then e.ep else -1
def kF (e:Event) (seen id:Int):Event×Bool×Int :=
  if ¬ eZ e then (e,false,40) else if (iC e.ln id).2≠0∨e.ep≠seen then (e,false,(iC e.ln id).2) else (⟨e.ep,(iC e.ln id).1⟩,true,0)
section
variable {P:Program} {κ:Ef→Prop} {env:List AV} {m:AM} {b:Nat}

def RM {σ:Type} (b0 B:Nat) (pat:σ→List (Option AV)) (mem:σ→AM) (J:σ→Prop) (μ:σ→Nat) (s:σ) (env:List AV) (m:AM):Prop :=
  ∃ Z ren s',stOk b0 (B - 1) Z ren m=true∧fS m Z=true∧μ s'<μ s∧J s'∧stM b0 (B - 1) Z ren (stT b0 (B - 1) Z ren m) m=mem s'∧Mt (pat s') (trs (stT b0 (B - 1) Z ren m) env)
section
variable {σ:Type} {pat:σ→List (Option AV)} {mem:σ→AM} {J:σ→Prop} {μ:σ→Nat} {s:σ} {b0 B:Nat} {K:KX}
def Od (b0 B:Nat) (pat:σ→List (Option AV)) (mem:σ→AM) (J:σ→Prop) (μ:σ→Nat) (s:σ) (K:KX):KX
  | .normal,env,m,b=>RM b0 B pat mem J μ s env m
  | .exit i,env,m,b=>K (.exit i) env m b
  | .ret,env,m,b=>K .ret env m b
theorem bS:Od b0 B pat mem J μ s K .normal env m b=RM b0 B pat mem J μ s env m:=rfl
theorem cJ (i:Nat):Od b0 B pat mem J μ s K (.exit i) env m b=K (.exit i) env m b:=rfl
theorem cY:Od b0 B pat mem J μ s K .ret env m b=K .ret env m b:=rfl
theorem gV (Z:List Nat) (ren:List (Nat×Nat)) (s':σ) (h1:stOk b0 (B - 1) Z ren m=true) (h2:fS m Z=true) (h3:μ s'<μ s) (h4:J s')
    (h5:stM b0 (B - 1) Z ren (stT b0 (B - 1) Z ren m) m=mem s') (h6:Mt (pat s') (trs (stT b0 (B - 1) Z ren m) env)):RM b0 B pat mem J μ s env m:=⟨Z,ren,s',h1,h2,h3,h4,h5,h6⟩
end
theorem oN {σ:Type} {ac:ACode} {K:KX} {b0:Nat} (B:Nat) (pat:σ→List (Option AV)) (mem:σ→AM) (J:σ→Prop) (μ:σ→Nat) (Z:List Nat) (ren:List (Nat×Nat)) (s0:σ) (hB:b0≤B∧1≤B) (h1:stOk b0 (B - 1) Z ren m=true) (h2:fS m Z=true) (h4:J s0)
    (h5:stM b0 (B - 1) Z ren (stT b0 (B - 1) Z ren m) m=mem s0) (h6:Mt (pat s0) (trs (stT b0 (B - 1) Z ren m) env))
    (hr:∀ s,J s→vW (pat s) fun env=>vc P b0 ac (Od b0 B pat mem J μ s K) env (mem s) B):LP b0 (vc P b0 ac) K env m b:=by
  have hBB:B - 1+1=B:=by omega
  refine ⟨fun n env m b=>b=B∧∃ s,n=μ s∧J s∧m=mem s∧Mt (pat s) env,⟨μ s0,_,mem s0,B,?_,hB.1,rfl,s0,rfl,h4,rfl,h6⟩,fun n env m b _ hI=>?_⟩
  · have:=SubS.step (env:=env) (b:=b) h1 h2
    rw [h5,hBB] at this
    exact this
  · obtain ⟨rfl,s,rfl,hJ,rfl,hM⟩:=hI
    refine Mt.all (Q:=fun env=>vc P b0 ac (IK b0 _ (μ s) K) env (mem s) b) ?_ hM
    have gen:∀ (p:List (Option AV)) (Q Q':List AV→Prop),(∀ e,Q e→Q' e)→vW p Q→vW p Q':=by
      intro p
      induction p with
      | nil=>intro Q Q' h hq; exact h _ hq
      | cons x p ih =>
        intro Q Q' h hq
        cases x with
        | none=>exact fun a=>ih _ _ (fun e=>h _) (hq a)
        | some x=>exact ih _ _ (fun e=>h _) hq
    refine gen _ _ _ (fun env hv=>Ao (fun e env m b' he=>?_) hv) (hr s hJ)
    cases e with
    | normal =>
      obtain ⟨Z,ren,s',q1,q2,q3,q4,q5,q6⟩:=he
      refine ⟨μ s',_,mem s',b,q3,?_,hB.1,rfl,s',rfl,q4,rfl,q6⟩
      have:=SubS.step (env:=env) (b:=b') q1 q2
      rw [q5,hBB] at this
      exact this
    | exit i=>exact he
    | ret=>exact he

def Wk (x y:AV):Prop:=∀ c v,VR c x v→VR c y v
def Wks:List AV→List AV→Prop
  | [],[]=>True
  | x :: xs,y :: ys=>Wk x y∧(x.one=true→y.one=true)∧Wks xs ys
  | _,_=>False
theorem Wk.refl (x:AV):Wk x x:=fun _ _ h=>h
theorem Wk.nil (sz:Nat):Wk .slnil (.slv sz []):=fun _ _ h=>by cases h; exact .slv0 sz
theorem Wk.sle (sz:Nat):Wk (.sle sz) (.slv sz []):=fun _ _ h=>by cases h with | sle _ a cap hc=>exact .slve sz a cap hc
theorem Wks.at:∀ {xs ys:List AV},Wks xs ys→xs.length=ys.length∧∀ (i:Nat) (y:AV),ys[i]?=some y→∃ x,xs[i]?=some x∧Wk x y∧(x.one=true→y.one=true)
  | [],[],_=>⟨rfl,fun i y h=>by simp at h⟩
  | x :: xs,y :: ys,h=>by
    obtain ⟨h1,h2,h3⟩:=h
    obtain ⟨k1,k2⟩:=Wks.at h3
    refine ⟨by simp [k1],fun i z hi=>?_⟩
    cases i with
    | zero=>simp at hi; subst hi; exact ⟨x,rfl,h1,h2⟩
    | succ i=>simpa using k2 i z (by simpa using hi)
theorem Wk.agg {xs ys:List AV} (h:Wks xs ys):Wk (.agg xs) (.agg ys):=fun c v hv=>by
  obtain ⟨h1,h2⟩:=h.at
  cases hv with
  | agg _ vs k1 k2 k3 =>
    refine .agg ys vs (h1 ▸ k1) (fun i y hi=>?_) (fun i y hi=>?_) <;> obtain ⟨x,q1,q2,q3⟩:=h2 i y hi
    · exact q3 (k2 i x q1)
    · exact q2 _ _ (k3 i x q1)
theorem Wk.tup {xs ys:List AV} (h:Wks xs ys):Wk (.tup xs) (.tup ys):=fun c v hv=>by
  obtain ⟨h1,h2⟩:=h.at
  cases hv with
  | tup _ vs k1 k3 =>
    refine .tup ys vs (h1 ▸ k1) (fun i y hi=>?_)
    obtain ⟨x,q1,q2,q3⟩:=h2 i y hi
    exact q2 _ _ (k3 i x q1)
theorem SubS.weak {b0:Nat} {x y:AV} (h:Wk x y):SubS b0 [x] m b [y] m b:=fun c0 c ts _ hc hs hm hU he =>
  ⟨c,rfl,hc,hs,hm,hU,⟨by simpa using he.1,fun i z hi=>by
    cases i with
    | zero=>simp at hi; subst hi; exact h _ _ (he.2 0 x rfl)
    | succ i=>simp at hi⟩⟩

theorem Ns {v:AV} {e:Ef} (Z:List Nat) (hb:(m.map (·.1)).Nodup) (h0:∀ p,p∈m→1≤p.1) (hZ:∀ g,g∈Z→1≤g) (hz:fS m Z=true) (h1:e.2=([],[])) (hw:Wk (v.tr (stT 1 1 Z [] m)) e.1):gM 1 [] e v m b:=by
  have hs:=SubS.step (b0:=1) (dead:=1) (Z:=Z) (σ:=[]) (env:=[v]) (m:=m) (b:=b) (by simp only [stOk]; simp [hb]; exact hZ) hz
  have hm:∀ (T:Tr) (l:AM),(∀ p,p∈l→1≤p.1)→stM 1 1 Z [] T l=[]:=by
    intro T l
    induction l with
    | nil=>intro _; rfl
    | cons p l ih =>
      intro h
      have h1:=h p (J7 ..)
      obtain ⟨g,B⟩:=p
      simp only [stM]
      simp only [] at h1
      split
      · exact ih fun q hq=>h q (H8 _ hq)
      · rw [if_neg (by simp [lk]; omega)]
        exact ih fun q hq=>h q (H8 _ hq)
  rw [hm _ m h0] at hs
  refine ⟨e.1,[],2,hs.trans (SubS.weak hw),by omega,?_,rfl⟩
  rw [h1]
  rfl
theorem wN {v:AV} {e:Ef} (Z:List Nat) (ren:List (Nat×Nat)) (h1:stOk 1 16 Z ren m=true) (hz:fS m Z=true) (hw:v.tr (stT 1 16 Z ren m)=e.1) (hm:(stM 1 16 Z ren (stT 1 16 Z ren m) m).get=(AM.upd [] e.2.1).get):gM 1 [] e v m b :=
  ⟨_,_,17,SubS.step h1 hz,by omega,hm,hw⟩
theorem tR {f:FuncId} {sz:Nat} {as:List AV} {e:Ef} (h1:cX P f (.slnil :: as) e) (h2:cX P f (.sle sz :: as) e):cX P f (.slv sz [] :: as) e:=by
  refine ⟨h1.1,fun c hc hm hU vs hvs=>?_⟩
  have h0:=hvs.2 0 _ rfl
  have other:∀ y,VR c y (vs.getD 0 dB)→ARel c (y :: as) vs:=fun y hy=>⟨by simpa using hvs.1,fun i x hi=>by
    cases i with
    | zero=>simp at hi; subst hi; exact hy
    | succ i=>exact hvs.2 (i+1) x (by simpa using hi)⟩
  generalize hv:vs.getD 0 dB=v at h0 other
  cases h0 with
  | slv0=>exact h1.2 c hc hm hU vs (other _ .slnil)
  | slve _ a cap hcap=>exact h2.2 c hc hm hU vs (other _ (.sle sz a cap hcap))
  | slvs _ rows a cap us q1=>exact absurd rfl q1
theorem jU (f:Nat→Option Blk) (iM:Bool):oI f iM .slnil=some { v:=.bool (neg? iM true) }:=rfl
theorem jV (f:Nat→Option Blk) (iM:Bool) (sz:Nat):oI f iM (.sle sz)=some { v:=.bool (neg? iM false) }:=rfl
theorem iH (f:Nat→Option Blk) (iM:Bool) (sz:Nat) (x:List AV) (l:List (List AV)):oI f iM (.slv sz (x :: l))=some { v:=.bool (neg? iM false) }:=rfl
theorem sW (t:Bool):neg? false t=t:=rfl
theorem sX (t:Bool):neg? true t=!t:=rfl
theorem iP (f:Nat→Option Blk) (sz:Nat):rowsOf f sz .slnil=some ([],[]):=rfl
theorem iQ (f:Nat→Option Blk) (sz z:Nat):rowsOf f sz (.sle z)=some ([],[]):=rfl
theorem eW (f:Nat→Option Blk) (sz:Nat) (rows:List (List AV)):rowsOf f sz (.slv sz rows)=some (rows,[]):=by simp [rowsOf]
theorem eL (f:Nat→Option Blk) (sz g l t:Nat) (rs:List (List AV)) (h:f g=some (.rows t sz rs)) (hl:l≤rs.length):rowsOf f sz (.slm g l)=some (rs.take l,[g]):=by simp [rowsOf,h,hl]
theorem eM {f:Nat→Option Blk} {g0 t sz bytes g len:Nat} {rs xs:List (List AV)} {rd:List Nat} {x:AV} (hx:rowsOf f sz x=some (xs,rd)) (hm:f g=some (.rows t sz rs)) (hl:len=rs.length) (hb:(rs.length+xs.length) * bytes≤140737488355328) (hm2:rs.length+xs.length≤9223372036854775807)
    (hk:κ (.slm g0 (rs.length+xs.length),[(g,none),(g0,some (.rows t sz (rs ++ xs)))],g :: rd)):nJ (doApp f g0 t sz bytes (.slm g len) x) κ:=by
  have:doApp f g0 t sz bytes (.slm g len) x=some { v:=.slm g0 (rs.length+xs.length),ups:=[(g,none),(g0,some (.rows t sz (rs ++ xs)))],rd:=g :: rd }:=by
    simp only [doApp,hx,hm]
    rw [if_pos ⟨trivial,trivial,hl,hb,hm2⟩]
  rw [this]
  exact hk
theorem jJ {f:Nat→Option Blk} {g0 t sz bytes:Nat} {xs:List (List AV)} {rd:List Nat} {x:AV} (hx:rowsOf f sz x=some (xs,rd)) (hb:xs.length * bytes≤140737488355328) (hm2:xs.length≤9223372036854775807) (hn:xs≠[])
    (hk:κ (.slm g0 xs.length,[(g0,some (.rows t sz xs))],rd)):nJ (doApp f g0 t sz bytes .slnil x) κ:=by
  have:doApp f g0 t sz bytes .slnil x=some { v:=.slm g0 xs.length,ups:=[(g0,some (.rows t sz xs))],rd:=rd }:=by
    simp only [doApp,hx]
    rw [if_pos ⟨hb,hm2,hn⟩]
  rw [this]
  exact hk
theorem Wk.of_eq {x y:AV} (h:x=y):Wk x y:=h ▸ Wk.refl x
theorem MW:∀ {m:AM} (_:(m.map (·.1)).Nodup) (_:m.all (fun p=>jG p.2)=true),fS m (m.map (·.1))=true:=by
  intro m hn ha
  unfold fS
  rw [G4]
  intro g hg
  obtain ⟨⟨k,B⟩,h1,rfl⟩:=G5.1 hg
  rw [AM.get_of_mem hn h1]
  exact G4.1 ha (k,B) h1
theorem iW {v:AV} {e:Ef} (hb:(m.map (·.1)).Nodup) (h0:∀ p,p∈m→1≤p.1) (hz:m.all (fun p=>jG p.2)=true) (h1:e.2=([],[])) (hw:Wk (v.tr (stT 1 1 (m.map (·.1)) [] m)) e.1):gM 1 [] e v m b :=
  Ns (m.map (·.1)) hb h0 (fun g hg=>by obtain ⟨p,hp,rfl⟩:=G5.1 hg; exact h0 p hp) (MW hb hz) h1 hw
theorem take_mapl {α β:Type} (f:α→β) (l:List α):(l.map f).take l.length=l.map f:=F3 (by simp)
theorem sN {f:FuncId} {α:Type} {enc:α→List AV} {sz:Nat} {as:List AV} {e:Ef} (h:cX P f (.slv sz (([]:List α).map enc) :: as) e):cX P f (.slnil :: as) e:=by
  refine ⟨h.1,fun c hc hm hU vs hvs=>h.2 c hc hm hU vs ⟨by simpa using hvs.1,fun i x hi=>?_⟩⟩
  cases i with
  | zero=>simp at hi; subst hi; exact Wk.nil sz _ _ (hvs.2 0 _ rfl)
  | succ i=>exact hvs.2 (i+1) x (by simpa using hi)
theorem dC (T:Tr) (a c:List (List AV)):trss T (a ++ c)=trss T a ++ trss T c:=by simp [pQ]
theorem AC.n1 {f:FuncId} {args:List AV} {v:AV} {B:Blk} (h:cX P f args (v,[(1,some B)],[])) (hb:1≤b) (hp:pures args=true) (hκ:κ (v.tr (mU 1 b),[(b,some (B.tr (mU 1 b)))],[])):AC P f args m b κ:=by
  refine AC.pure (kz:=false) [] h hb rfl (dQ _ _ hp) rfl (.inr (.inl rfl)) ?_
  simpa [lT,rG,jR] using hκ
theorem cL (b:Nat) (l:Nat):(mU 1 b).s 1 l=.slm b l:=by simp [mU,jR]
theorem HA (b:Nat) (r o:Nat):(mU 1 b).p 1 r o=.ptr b r o:=by simp [mU,jR]
theorem bt_rows (T:Tr) (t sz:Nat) (rs:List (List AV)):Blk.tr T (.rows t sz rs)=.rows t sz (trss T rs):=rfl
theorem sR {v:AV} {e:Ef} (ren:List (Nat×Nat)) (h1:stOk 1 16 [] ren m=true) (hw:v.tr (stT 1 16 [] ren m)=e.1) (hm:stM 1 16 [] ren (stT 1 16 [] ren m) m=AM.upd [] e.2.1):gM 1 [] e v m b :=
  wN [] ren h1 rfl hw (by rw [hm])
theorem yB {f:FuncId} {α:Type} {enc:α→List AV} {sz:Nat} {as:List AV} {e:Ef} (h:cX P f (.slv sz (([]:List α).map enc) :: as) e):cX P f (.sle sz :: as) e:=by
  refine ⟨h.1,fun c hc hm hU vs hvs=>h.2 c hc hm hU vs ⟨by simpa using hvs.1,fun i x hi=>?_⟩⟩
  cases i with
  | zero=>simp at hi; subst hi; exact Wk.sle sz _ _ (hvs.2 0 _ rfl)
  | succ i=>exact hvs.2 (i+1) x (by simpa using hi)
theorem Hw {f:FuncId} {α:Type} {enc:α→List AV} {sz:Nat} {as:List AV} {e:Ef} (h1:cX P f (.slnil :: as) e) (h2:cX P f (.sle sz :: as) e):cX P f (.slv sz (([]:List α).map enc) :: as) e:=tR h1 h2
theorem pE:∀ (a c:List (List AV)),puress (a ++ c)=(puress a && puress c)
  | [],c=>by simp [puress]
  | x :: a,c=>by simp [puress,pE a c,Bool.and_assoc]
theorem Zg {α:Type} {enc:α→List AV} {f:Nat→Option Blk} {g0 sz:Nat} {l:List α} {k:IntKind} {i:Int} (h:0≤i∧i≤l.length) (hk:κ (.slv sz ((l.drop i.toNat).map enc),[],[])):nJ (lS f g0 sz (.slv sz (l.map enc)) (some (.int k i)) none) κ:=by
  have : lS f g0 sz (.slv sz (l.map enc)) (some (.int k i)) none=some { v:=.slv sz ((l.drop i.toNat).map enc) }:=by
    have h1:((l.map enc).drop i.toNat).take (((l.map enc).length:Int).toNat - i.toNat)=(l.drop i.toNat).map enc:=by
      rw [← List.map_drop]
      exact F3 (by simp)
    simp only [lS]
    rw [if_pos ⟨trivial,h.1,by simpa using h.2,Int.le_refl _⟩,h1]
  rw [this]
  exact hk
theorem AC.own {f:FuncId} {args:List AV} {e:Ef} (m0:AM) (B0:Nat) (h:sD P f args e m0.get B0) (h1:1≤B0) (hb:B0≤b) (hn:(m0.map (·.1)).Nodup) (h0:∀ p,p∈m0→p.1<B0 - 1∧m.get p.1=some p.2∧jG p.2=true)
    (hargs:trs (rI m.get (m0.map (·.1)) B0 []) args=args) (hups:∀ p,p∈e.2.1→p.1<B0∧(m0.get p.1).isSome=true∧∀ B,p.2=some B→jG B=true) (hv:e.1.pure=true)
    (hκ:κ (e.1,e.2.1,m0.map (·.1) ++ [])):AC P f args m b κ:=by
  have hpB:∀ (T:Tr) (B:Blk),jG B=true→B.tr T=B:=by
    intro T B hB
    cases B with
    | rows t sz rs=>simp only [Blk.tr,pR T rs hB]
    | mp es=>cases hB
  have hlt:∀ k,(m0.get k).isSome=true→k<B0 - 1:=by
    intro k hk
    obtain ⟨B,hB⟩:=G2.1 hk
    exact (h0 (k,B) (AM.mem_of_get hB)).1
  have hupn:∀ k,k<B0 - 1→jR B0 b k=k:=fun k hk=>by unfold jR; rw [if_pos (by omega),if_neg (by omega)]
  refine ⟨_,mS (kz:=false) (Z:=[]) h h1 hb (fun n B hB=>⟨(h0 (n,B) (AM.mem_of_get hB)).1,(h0 (n,B) (AM.mem_of_get hB)).2.1⟩) (fun n=>⟨fun hm=>?_,fun hs=>?_⟩) (fun T _ n B hB=>hpB T B (h0 (n,B) (AM.mem_of_get hB)).2.2) (fun g hg=>by cases hg) hargs (fun p hp=>⟨by have:=(hups p hp).1; omega,fun _=>(hups p hp).2.1⟩) (.inr (.inl rfl)),?_⟩
  · obtain ⟨⟨k,B⟩,hk,rfl⟩:=G5.1 hm
    rw [AM.get_of_mem hn hk]; rfl
  · obtain ⟨B,hB⟩:=G2.1 hs
    exact G5.2 ⟨(n,B),AM.mem_of_get hB,rfl⟩
  · have hmap:e.2.1.map (rG B0 b)=e.2.1:=by
      conv=>rhs; rw [← Z7 e.2.1]
      refine O7 fun p hp=>?_
      obtain ⟨q1,q2,q3⟩:=hups p hp
      obtain ⟨k,o⟩:=p
      simp only [rG,id_eq,hupn k (hlt k q2)]
      cases o with
      | none=>rfl
      | some B=>simp only [L9,hpB _ B (q3 B rfl)]
    rw [AV.tr_pure _ _ hv,hmap]
    exact hκ
end

def ACode.lf:ACode→Bool
  | .loop _=>false
  | .seq x y=>x.lf && y.lf
  | .block _ x=>x.lf
  | .cond _ x y=>x.lf && y.lf
  | _=>true

mutual
/-- All its names are of a list. -/
def AV.inN (L:List Nat):AV→Bool
  | .ptr g _ _=>L.contains g
  | .slm g _=>L.contains g
  | .mapm g=>L.contains g
  | .pv cs=>jX L cs
  | .slv _ rows=>oM L rows
  | .fn _ a b=>jX L a && jX L b
  | .iface _ x=>x.inN L
  | .agg cs=>jX L cs
  | .tup cs=>jX L cs
  | .int _ _ | .bool _ | .str _ | .nilp | .slnil | .sle _ | .mapnil | .fnnil | .ifnil | .und=>true
def jX (L:List Nat):List AV→Bool
  | []=>true
  | x :: l=>x.inN L && jX L l
def oM (L:List Nat):List (List AV)→Bool
  | []=>true
  | x :: l=>jX L x && oM L l
end
def Tr.fixes (T:Tr) (g:Nat):Prop:=(∀ r o,T.p g r o=.ptr g r o)∧(∀ l,T.s g l=.slm g l)∧T.mp g=.mapm g
mutual
theorem AV.tr_inN {T:Tr} {L:List Nat} (hT:∀ g,g∈L→T.fixes g):∀ x:AV,x.inN L=true→x.tr T=x
  | .ptr g _ _,h=>(hT g (H6.1 h)).1 _ _
  | .slm g _,h=>(hT g (H6.1 h)).2.1 _
  | .mapm g,h=>(hT g (H6.1 h)).2.2
  | .pv cs,h=>by simp only [AV.inN] at h; simp only [AV.tr,jD hT cs h]
  | .slv _ rows,h=>by simp only [AV.inN] at h; simp only [AV.tr,Cx hT rows h]
  | .fn _ a b,h=>by simp only [AV.inN,D9] at h; simp only [AV.tr,jD hT a h.1,jD hT b h.2]
  | .iface _ x,h=>by simp only [AV.inN] at h; simp only [AV.tr,AV.tr_inN hT x h]
  | .agg cs,h=>by simp only [AV.inN] at h; simp only [AV.tr,jD hT cs h]
  | .tup cs,h=>by simp only [AV.inN] at h; simp only [AV.tr,jD hT cs h]
  | .int _ _,_ | .bool _,_ | .str _,_ | .nilp,_ | .slnil,_ | .sle _,_ | .mapnil,_ | .fnnil,_ | .ifnil,_ | .und,_=>rfl
theorem jD {T:Tr} {L:List Nat} (hT:∀ g,g∈L→T.fixes g):∀ l:List AV,jX L l=true→trs T l=l
  | [],_=>rfl
  | x :: l,h=>by simp only [jX,D9] at h; simp only [trs,AV.tr_inN hT x h.1,jD hT l h.2]
theorem Cx {T:Tr} {L:List Nat} (hT:∀ g,g∈L→T.fixes g):∀ l:List (List AV),oM L l=true→trss T l=l
  | [],_=>rfl
  | x :: l,h=>by simp only [oM,D9] at h; simp only [trss,jD hT x h.1,Cx hT l h.2]
end
mutual
theorem AV.inN_pure {L:List Nat}:∀ x:AV,x.pure=true→x.inN L=true
  | .ptr _ _ _,h | .slm _ _,h | .mapm _,h=>by simp [AV.pure] at h
  | .pv cs,h=>by simp only [AV.pure] at h; simp only [AV.inN,kR cs h]
  | .slv _ rows,h=>by simp only [AV.pure] at h; simp only [AV.inN,vA rows h]
  | .fn _ a b,h=>by simp only [AV.pure,D9] at h; simp only [AV.inN,kR a h.1,kR b h.2,Y1]
  | .iface _ x,h=>by simp only [AV.pure] at h; simp only [AV.inN,AV.inN_pure x h]
  | .agg cs,h=>by simp only [AV.pure] at h; simp only [AV.inN,kR cs h]
  | .tup cs,h=>by simp only [AV.pure] at h; simp only [AV.inN,kR cs h]
  | .int _ _,_ | .bool _,_ | .str _,_ | .nilp,_ | .slnil,_ | .sle _,_ | .mapnil,_ | .fnnil,_ | .ifnil,_ | .und,_=>rfl
theorem kR {L:List Nat}:∀ l:List AV,pures l=true→jX L l=true
  | [],_=>rfl
  | x :: l,h=>by simp only [pures,D9] at h; simp only [jX,AV.inN_pure x h.1,kR l h.2,Y1]
theorem vA {L:List Nat}:∀ l:List (List AV),puress l=true→oM L l=true
  | [],_=>rfl
  | x :: l,h=>by simp only [puress,D9] at h; simp only [oM,kR x h.1,vA l h.2,Y1]
end
def Blk.inN (L:List Nat):Blk→Bool
  | .rows _ _ rs=>oM L rs
  | .mp es=>es.all fun p=>p.1.inN L && p.2.inN L
theorem Blk.tr_inN {T:Tr} {L:List Nat} (hT:∀ g,g∈L→T.fixes g) {B:Blk} (h:B.inN L=true):B.tr T=B:=by
  cases B with
  | rows t sz rs=>simp only [Blk.inN] at h; simp only [Blk.tr,Cx hT rs h]
  | mp es =>
    simp only [Blk.inN,G4,D9] at h
    simp only [Blk.tr,Blk.mp.injEq]
    conv=>rhs; rw [← Z7 es]
    exact O7 fun p hp=>by rw [AV.tr_inN hT _ (h p hp).1,AV.tr_inN hT _ (h p hp).2]; rfl

section
variable {P:Program} {κ:Ef→Prop} {env:List AV} {m:AM} {b:Nat}

theorem Wy {g:Option (Nat×Bool)} {op:AOp} (h:gK P g op κ env m b):∃ e,κ e∧∀ κ':Ef→Prop,κ' e→gK P g op κ' env m b:=by
  have pd : ∀ {κ:Ef→Prop},lK P op κ env m b→∃ e,κ e∧∀ κ':Ef→Prop,κ' e→lK P op κ' env m b:=by
    intro κ hv
    unfold lK at hv ⊢
    split at hv
    · obtain ⟨e,h1,h2⟩:=hv; exact ⟨e,h2,fun κ' hk=>⟨e,h1,hk⟩⟩
    · unfold vY at hv
      split at hv
      · rename_i heq
        obtain ⟨e,h1,h2⟩:=hv
        refine ⟨e,h2,fun κ' hk=>?_⟩
        simp only [heq,vY]
        exact ⟨e,h1,hk⟩
      · exact hv.elim
    · unfold Ca at hv
      split at hv
      · rename_i heq
        split at hv
        · rename_i hg
          obtain ⟨e,h1,h2⟩:=hv
          refine ⟨e,h2,fun κ' hk=>?_⟩
          simp only [heq,Ca,hg]
          exact ⟨e,h1,hk⟩
        · exact hv.elim
      · exact hv.elim
    · unfold nJ at hv
      split at hv
      · rename_i r hr; exact ⟨_,hv,fun κ' hk=>by simp only [hr,nJ]; exact hk⟩
      · exact hv.elim
  cases g with
  | none=>exact pd h
  | some p =>
    obtain ⟨s,w⟩:=p
    simp only [gK] at h ⊢
    cases hx:env.getD s .und with
    | bool t =>
      rw [hx] at h
      simp only [jW] at h ⊢
      cases htw:(t == w) with
      | true=>rw [htw] at h; exact pd h
      | false=>rw [htw] at h; exact ⟨_,h,fun κ' hk=>hk⟩
    | tup l =>
      rw [hx] at h
      cases l with
      | nil=>exact ⟨_,h,fun κ' hk=>hk⟩
      | cons x l=>exact h.elim
    | _=>rw [hx] at h; exact h.elim
theorem Pi:∀ {xs:List AO} {k:KE} {env:List AV} {m:AM} {b:Nat},xI P xs k env m b→∃ env' m' b',k env' m' b'∧∀ k':KE,k' env' m' b'→xI P xs k' env m b
  | [],k,env,m,b,h=>⟨env,m,b,h,fun k' hk=>hk⟩
  | o :: rest,k,env,m,b,h=>by
    obtain ⟨e,h1,h2⟩:=Wy h
    obtain ⟨env',m',b',h3,h4⟩:=Pi h1
    exact ⟨env',m',b',h3,fun k' hk=>h2 _ (h4 k' hk)⟩
theorem Pm {un:List (Nat×Nat)}:∀ {xs:List AO} {k:KE} {tr:List Ef} {env:List AV} {m:AM} {b:Nat},vR P un xs k tr env m b→∃ env' m' b',k env' m' b'∧∀ k':KE,k' env' m' b'→vR P un xs k' tr env m b
  | [],k,tr,env,m,b,h=>⟨env,m,b,h.2,fun k' hk=>⟨h.1,hk⟩⟩
  | o :: rest,k,tr,env,m,b,h=>by
    obtain ⟨e,h1,h2⟩:=Wy h
    obtain ⟨env',m',b',h3,h4⟩:=Pm h1
    exact ⟨env',m',b',h3,fun k' hk=>h2 _ (h4 k' hk)⟩
theorem Me {b0:Nat}:∀ {c:ACode},c.lf=true→∀ {K:KX} {env:List AV} {m:AM} {b:Nat},vc P b0 c K env m b→∃ x env' m' b',K x env' m' b'∧∀ K':KX,K' x env' m' b'→vc P b0 c K' env m b:=by
  intro c
  induction c with
  | skip=>intro _ K env m b h; exact ⟨.normal,env,m,b,h,fun K' hk=>hk⟩
  | ret=>intro _ K env m b h; exact ⟨.ret,env,m,b,h,fun K' hk=>hk⟩
  | exit i=>intro _ K env m b h; exact ⟨.exit i,env,m,b,h,fun K' hk=>hk⟩
  | seq x y ihx ihy =>
    intro hl K env m b h
    simp only [ACode.lf,D9] at hl
    obtain ⟨e,env1,m1,b1,h1,h2⟩:=ihx hl.1 h
    cases e with
    | normal =>
      obtain ⟨e2,env2,m2,b2,h3,h4⟩:=ihy hl.2 h1
      exact ⟨e2,env2,m2,b2,h3,fun K' hk=>h2 _ (h4 K' hk)⟩
    | exit i=>exact ⟨.exit i,env1,m1,b1,h1,fun K' hk=>h2 _ hk⟩
    | ret=>exact ⟨.ret,env1,m1,b1,h1,fun K' hk=>h2 _ hk⟩
  | block i x ih =>
    intro hl K env m b h
    obtain ⟨e,env1,m1,b1,h1,h2⟩:=ih hl h
    cases e with
    | normal=>exact ⟨.normal,env1,m1,b1,h1,fun K' hk=>h2 _ hk⟩
    | exit j =>
      simp only [rT] at h1
      split at h1
      · rename_i hj
        exact ⟨.normal,env1,m1,b1,h1,fun K' hk=>h2 _ (by simp only [rT,if_pos hj]; exact hk)⟩
      · rename_i hj
        exact ⟨.exit j,env1,m1,b1,h1,fun K' hk=>h2 _ (by simp only [rT,if_neg hj]; exact hk)⟩
    | ret=>exact ⟨.ret,env1,m1,b1,h1,fun K' hk=>h2 _ hk⟩
  | cond q x y ihx ihy =>
    intro hl K env m b h
    simp only [ACode.lf,D9] at hl
    simp only [vc] at h ⊢
    cases hx:q.eval env with
    | bool t =>
      rw [hx] at h
      cases t with
      | true=>exact ihx hl.1 h
      | false=>exact ihy hl.2 h
    | _=>rw [hx] at h; exact h.elim
  | loop x ih=>intro hl; simp [ACode.lf] at hl
  | reg ops =>
    intro _ K env m b h
    obtain ⟨env',m',b',h1,h2⟩:=Pi h
    exact ⟨.normal,env',m',b',h1,fun K' hk=>h2 _ hk⟩
  | regT ops un =>
    intro _ K env m b h
    obtain ⟨env',m',b',h1,h2⟩:=Pm h
    exact ⟨.normal,env',m',b',h1,fun K' hk=>h2 _ hk⟩

def inlOk (b:Nat) (m:AM) (Z:List Nat) (ren:List (Nat×Nat)) (v':AV) (m2:AM):Bool :=
  decide (m2.map (·.1)).Nodup && m2.all (fun p=>decide (p.1<b+15) && (decide (b≤p.1) || (m.map (·.1)).contains p.1) && p.2.inN (m2.map (·.1))) && v'.inN (m2.map (·.1))
def inlU (m m2:AM):List (Nat×Option Blk):=m.map (fun p=>(p.1,none)) ++ m2.map (fun p=>(p.1,some p.2))
def Dk (b:Nat) (m:AM) (κ:Ef→Prop) (v:AV) (m':AM) (b':Nat):Prop:=∃ Z ren,stOk b (b+15) Z ren m'=true∧fS m' Z=true ∧
  inlOk b m Z ren (v.tr (stT b (b+15) Z ren m')) (stM b (b+15) Z ren (stT b (b+15) Z ren m') m')=true ∧
  κ (v.tr (stT b (b+15) Z ren m'),inlU m (stM b (b+15) Z ren (stT b (b+15) Z ren m') m'),m.map (·.1))
theorem Cz:∀ {m2:AM} {f:Nat→Option Blk},(m2.map (·.1)).Nodup→∀ n,ups f (m2.map fun p=>(p.1,some p.2)) n=(match m2.get n with | some B=>some B | none=>f n)
  | [],f,_,n=>rfl
  | (g,B) :: l,f,h,n=>by
    rw [N4,Q4] at h
    simp only [N4,ups]
    rw [Cz h.2 n]
    simp only [J0]
    by_cases hn:n=g
    · subst hn
      rw [if_pos rfl]
      cases hl:J0 l n with
      | none=>simp
      | some B'=>exact absurd (G5.2 ⟨(n,B'),AM.mem_of_get hl,rfl⟩) h.1
    · rw [if_neg hn]
      cases J0 l n with
      | none=>simp [put,hn]
      | some B'=>rfl
theorem zG:∀ {m:AM} {n:Nat},n∉m.map (·.1)→m.get n=none:=by
  intro m n h
  cases hm:m.get n with
  | none=>rfl
  | some B=>exact absurd (G5.2 ⟨(n,B),AM.mem_of_get hm,rfl⟩) h
theorem mP {m m2:AM} (h:(m2.map (·.1)).Nodup):m2.get=(m.upd (inlU m m2)).get:=by
  rw [U5]
  funext n
  unfold inlU
  rw [oB,Cz h]
  have:ups m.get (m.map fun p=>(p.1,none)) n=none:=by
    have:=xH m.get (m.map (·.1)) n
    rw [List.map_map] at this
    rw [show (m.map fun p=>(p.1,(none:Option Blk)))=m.map ((fun g=>(g,(none:Option Blk)))∘fun x=>x.1) from rfl,this]
    split
    · rfl
    · rename_i hn; exact zG hn
  rw [this]
  cases m2.get n <;> rfl
theorem AC.inl {f:FuncId} {A:AFn} {args:List AV} (hmix:P.follows .mixedOrders=true) (hA:xf P f=some A) (hlf:A.code.lf=true) (hn:args.length≤A.n) (h1:1≤b) (hnd:(m.map (·.1)).Nodup) (h0:m.all (fun p=>decide (p.1<b - 1) && p.2.inN (m.map (·.1)))=true)
    (hargs:jX (m.map (·.1)) args=true) (h:vc P b A.code (gP A.res (Dk b m κ)) (args ++ M0 (A.n - args.length) .und) m b):AC P f args m b κ:=by
  obtain ⟨x,env',m',b',hk,hall⟩:=Me hlf h
  have main:∀ l,resL env' m'.get A.res=some l→(∀ e,gM b m e (iF l) m' b'→gP A.res (gM b m e) x env' m' b')→Dk b m κ (iF l) m' b'→AC P f args m b κ:=by
    rintro l hl hfin ⟨Z,ren,k1,k2,k3,k4⟩
    generalize hv':(iF l).tr (stT b (b+15) Z ren m')=v' at k3 k4
    generalize hm2:stM b (b+15) Z ren (stT b (b+15) Z ren m') m'=m2 at k3 k4
    simp only [inlOk,D9,decide_eq_true_eq,G4] at k3
    obtain ⟨⟨q1,q2⟩,q3⟩:=k3
    have hs:=SubS.step (env:=[iF l]) (b:=b') k1 k2
    rw [hm2] at hs
    have hmcb:sD P f args (v',inlU m m2,[]) m.get b:=aI hmix hA hn fun _ _=>hall _ (hfin _ ⟨v',m2,b+16,by rw [← hv']; exact hs,G1 _,mP q1,rfl⟩)
    have hlt:∀ n B,m.get n=some B→n<b - 1:=fun n B hB=>by
      have:=G4.1 h0 _ (AM.mem_of_get hB)
      simp only [D9,decide_eq_true_eq] at this
      exact this.1
    have hks:∀ n,n∈m.map (·.1)↔(m.get n).isSome=true:=fun n=>⟨fun hm=>by
      obtain ⟨⟨k,B⟩,hk,rfl⟩:=G5.1 hm
      rw [AM.get_of_mem hnd hk]; rfl,fun hs=>by
      obtain ⟨B,hB⟩:=G2.1 hs
      exact G5.2 ⟨(n,B),AM.mem_of_get hB,rfl⟩⟩
    have fixU:∀ g,g∈m2.map (·.1)→jR b b g=g:=by
      intro g hg
      obtain ⟨p,hp,rfl⟩:=G5.1 hg
      have:=q2 p hp
      simp only [H9,decide_eq_true_eq,H6] at this
      obtain ⟨⟨r1,r2⟩,_⟩:=this
      unfold jR
      by_cases hb:p.1<b
      · rcases r2 with r2 | r2
        · omega
        · obtain ⟨B,hB⟩:=G2.1 ((hks _).1 r2)
          have:=hlt _ B hB
          rw [if_pos hb,if_neg (by omega)]
      · rw [if_neg hb,if_pos r1]; omega
    have hT:∀ g,g∈m2.map (·.1)→(mU b b).fixes g:=fun g hg=>⟨fun r o=>by show AV.ptr (jR b b g) r o=_; rw [fixU g hg],fun l=>by show AV.slm (jR b b g) l=_; rw [fixU g hg],by show AV.mapm (jR b b g)=_; rw [fixU g hg]⟩
    have hupsm:(inlU m m2).map (rG b b)=inlU m m2:=by
      conv=>rhs; rw [← Z7 (inlU m m2)]
      refine O7 fun p hp=>?_
      unfold inlU at hp
      rcases N9.1 hp with hp | hp
      · obtain ⟨q,hq,rfl⟩:=G5.1 hp
        have:=hlt q.1 q.2 (AM.get_of_mem hnd hq)
        simp only [rG,id_eq,R5,Prod.mk.injEq,and_true]
        unfold jR
        rw [if_pos (by omega),if_neg (by omega)]
      · obtain ⟨q,hq,rfl⟩:=G5.1 hp
        have:=q2 q hq
        simp only [rG,id_eq,L9,fixU q.1 (G5.2 ⟨q,hq,rfl⟩)]
        rw [Blk.tr_inN hT this.2]
    have:=mS (kz:=false) (Z:=[]) (args':=args) (m:=m.get) hmcb h1 (G1 b) (fun n B hB=>⟨hlt n B hB,hB⟩) hks (fun T hT' n B hB=>?_) (fun g hg=>by cases hg) ?_ (fun p hp=>?_) (.inr (.inl rfl))
    · refine ⟨_,this,?_⟩
      rw [AV.tr_inN hT _ q3]
      simp only [lT,I9,G0,if_false,hupsm,N3]
      exact k4
    · have hB':=G4.1 h0 _ (AM.mem_of_get hB)
      simp only [D9] at hB'
      exact Blk.tr_inN (fun g hg=>hT' g ((hks g).1 hg)) hB'.2
    · refine jD (fun g hg=>?_) args hargs
      have hc:(m.map (·.1)).contains g=true:=H6.2 hg
      exact ⟨fun r o=>by simp only [rI,hc]; simp,fun l=>by simp only [rI,hc]; simp,by simp only [rI,hc]; simp⟩
    · unfold inlU at hp
      rcases N9.1 hp with hp | hp
      · obtain ⟨q,hq,rfl⟩:=G5.1 hp
        have hg:=AM.get_of_mem hnd hq
        have:=hlt q.1 q.2 hg
        exact ⟨by simp only []; omega,fun _=>by simp only [hg]; rfl⟩
      · obtain ⟨q,hq,rfl⟩:=G5.1 hp
        have:=q2 q hq
        simp only [H9,decide_eq_true_eq,H6] at this
        refine ⟨this.1.1,fun hb=>?_⟩
        rcases this.1.2 with r | r
        · omega
        · exact (hks _).1 r
  cases x with
  | exit i=>exact hk.elim
  | normal =>
    cases hl:resL env' m'.get A.res with
    | none=>simp only [gP,hl,lO] at hk
    | some l=>exact main l hl (fun e he=>by simp only [gP,hl,lO]; exact he) (by simpa only [gP,hl,lO] using hk)
  | ret =>
    cases hl:resL env' m'.get A.res with
    | none=>simp only [gP,hl,lO] at hk
    | some l=>exact main l hl (fun e he=>by simp only [gP,hl,lO]; exact he) (by simpa only [gP,hl,lO] using hk)

theorem Wd {f:FuncId} {sz:Nat} {pre post as:List AV} {e:Ef} (h1:cX P f (.agg (pre ++ .slnil :: post) :: as) e) (h2:cX P f (.agg (pre ++ .sle sz :: post) :: as) e):cX P f (.agg (pre ++ .slv sz [] :: post) :: as) e:=by
  refine ⟨h1.1,fun c hc hm hU vs hvs=>?_⟩
  have h0:=hvs.2 0 _ rfl
  have other:∀ y,VR c y (vs.getD 0 dB)→ARel c (y :: as) vs:=fun y hy=>⟨by simpa using hvs.1,fun i x hi=>by
    cases i with
    | zero=>simp at hi; subst hi; exact hy
    | succ i=>exact hvs.2 (i+1) x (by simpa using hi)⟩
  generalize hv:vs.getD 0 dB=v at h0 other
  cases h0 with
  | agg _ us k1 k2 k3 =>
    have hcell:∀ y,y.one=true→VR c y (us.getD pre.length dB)→VR c (.agg (pre ++ y :: post)) (.agg us):=by
      intro y hy1 hy2
      refine .agg _ us (by simpa using k1) (fun i x hi=>?_) (fun i x hi=>?_)
      · rcases X0 i pre.length with h | h | h
        · refine k2 i x ?_; rw [H4 h] at hi ⊢; exact hi
        · subst h; simp at hi; subst hi; exact hy1
        · refine k2 i x ?_
          rw [I6 (by omega)] at hi ⊢
          obtain ⟨j,hj⟩:∃ j,i - pre.length=j+1:=⟨i - pre.length - 1,by omega⟩
          rw [hj] at hi ⊢; simpa using hi
      · rcases X0 i pre.length with h | h | h
        · refine k3 i x ?_; rw [H4 h] at hi ⊢; exact hi
        · subst h; simp at hi; subst hi; exact hy2
        · refine k3 i x ?_
          rw [I6 (by omega)] at hi ⊢
          obtain ⟨j,hj⟩:∃ j,i - pre.length=j+1:=⟨i - pre.length - 1,by omega⟩
          rw [hj] at hi ⊢; simpa using hi
    have hat:=k3 pre.length (.slv sz []) (by simp)
    generalize us.getD pre.length dB=u at hat hcell
    cases hat with
    | slv0=>exact h1.2 c hc hm hU vs (other _ (hcell _ rfl .slnil))
    | slve _ a cap hcap=>exact h2.2 c hc hm hU vs (other _ (hcell _ rfl (.sle sz a cap hcap)))
    | slvs _ rows a cap us q1=>exact absurd rfl q1

theorem AC.gn1 {f:FuncId} {args:List AV} {v:AV} {B:Blk} (Z:List Nat) (h:cX P f (trs (rI m.get [] 1 Z) args) (v,[(1,some B)],[])) (hb:1≤b) (hz:fS m Z=true) (hκ:κ (v.tr (mU 1 b),Z.map (fun g=>(g,none)) ++ [(b,some (B.tr (mU 1 b)))],Z)):AC P f args m b κ:=by
  refine AC.pure (kz:=true) Z h hb hz rfl rfl (.inl rfl) ?_
  simpa [lT,rG,jR] using hκ
end

mutual
/-- The names in a value. -/
def AV.nms:AV→List Nat
  | .ptr g _ _=>[g]
  | .slm g _=>[g]
  | .mapm g=>[g]
  | .pv cs=>jL cs
  | .slv _ rows=>sY rows
  | .fn _ a b=>jL a ++ jL b
  | .iface _ x=>x.nms
  | .agg cs=>jL cs
  | .tup cs=>jL cs
  | .int _ _ | .bool _ | .str _ | .nilp | .slnil | .sle _ | .mapnil | .fnnil | .ifnil | .und=>[]
def jL:List AV→List Nat
  | []=>[]
  | x :: l=>x.nms ++ jL l
def sY:List (List AV)→List Nat
  | []=>[]
  | x :: l=>jL x ++ sY l
end
mutual
theorem AV.nms_pure:∀ x:AV,x.pure=true→x.nms=[]
  | .ptr _ _ _,h | .slm _ _,h | .mapm _,h=>by simp [AV.pure] at h
  | .pv cs,h=>by simp only [AV.pure] at h; simp only [AV.nms,kT cs h]
  | .slv _ rows,h=>by simp only [AV.pure] at h; simp only [AV.nms,vE rows h]
  | .fn _ a b,h=>by simp only [AV.pure,D9] at h; simp only [AV.nms,kT a h.1,kT b h.2,N3]
  | .iface _ x,h=>by simp only [AV.pure] at h; simp only [AV.nms,AV.nms_pure x h]
  | .agg cs,h=>by simp only [AV.pure] at h; simp only [AV.nms,kT cs h]
  | .tup cs,h=>by simp only [AV.pure] at h; simp only [AV.nms,kT cs h]
  | .int _ _,_ | .bool _,_ | .str _,_ | .nilp,_ | .slnil,_ | .sle _,_ | .mapnil,_ | .fnnil,_ | .ifnil,_ | .und,_=>rfl
theorem kT:∀ l:List AV,pures l=true→jL l=[]
  | [],_=>rfl
  | x :: l,h=>by simp only [pures,D9] at h; simp only [jL,AV.nms_pure x h.1,kT l h.2,N3]
theorem vE:∀ l:List (List AV),puress l=true→sY l=[]
  | [],_=>rfl
  | x :: l,h=>by simp only [puress,D9] at h; simp only [sY,kT x h.1,vE l h.2,N3]
end
def Blk.nms:Blk→List Nat
  | .rows _ _ rs=>sY rs
  | .mp es=>es.flatMap fun p=>p.1.nms ++ p.2.nms
def fA (b:Nat):List Nat→List Nat→List Nat
  | [],acc=>acc
  | g :: l,acc=>if b≤g then (if acc.contains g then fA b l acc else fA b l (acc ++ [g])) else fA b l acc
def Jj (b:Nat):AM→List Nat
  | []=>[]
  | (g,B) :: l=>if g<b then B.nms ++ Jj b l else Jj b l
def Sj:Nat→List Nat→List (Nat×Nat)
  | _,[]=>[]
  | k,g :: l=>(g,k) :: Sj (k+1) l
def autoR (b:Nat) (v:AV) (m':AM):List (Nat×Nat):=Sj b (fA b (v.nms ++ Jj b m') [])
section
variable {P:Program} {κ:Ef→Prop} {m:AM} {b:Nat}
theorem Xo {m':AM} {b':Nat} {v:AV} {ren:List (Nat×Nat)} (h0:autoR b v m'=ren) (h1:stOk b (b+15) [] ren m'=true)
    (h3:inlOk b m [] ren (v.tr (stT b (b+15) [] ren m')) (stM b (b+15) [] ren (stT b (b+15) [] ren m') m')=true)
    (h4:κ (v.tr (stT b (b+15) [] ren m'),inlU m (stM b (b+15) [] ren (stT b (b+15) [] ren m') m'),m.map (·.1))):Dk b m κ v m' b':=⟨[],ren,h1,rfl,h3,h4⟩
theorem LG {α:Type} {enc:α→List AV} {l:List α} {d:α} {f:Nat→Option Blk} {g i o n t sz:Nat} {ag:Bool} (hm:f g=some (.rows t sz (l.map enc))) (hi:i<l.length)
    (hk:nJ ((part o n ag (enc (l.getD i d))).map fun v=>{ v:=v,rd:=[g] }) κ):nJ (cS f n ag (.ptr g i o)) κ:=by
  have:(l.map enc)[i]?=some (enc (l.getD i d)):=by simp [hi]
  simp only [cS,hm,this]
  exact hk
theorem vQ {α:Type} {enc:α→List AV} {l:List α} {d:α} {f:Nat→Option Blk} {g i o n t sz:Nat} {v:AV} {y:α} (hm:f g=some (.rows t sz (l.map enc))) (hi:i<l.length) (hn:v.cells.length=n) (ho:o+n≤(enc (l.getD i d)).length)
    (h1:v.cells.all AV.one=true) (hy:aJ (enc (l.getD i d)) o v.cells=enc y) (hk:κ (.und,[(g,some (.rows t sz ((l.set i y).map enc)))],[g])):nJ (cW f n (.ptr g i o) v) κ:=by
  have:(l.map enc)[i]?=some (enc (l.getD i d)):=by simp [hi]
  simp only [cW,hm,this]
  rw [if_pos ⟨hn,ho,h1⟩,hy,← List.map_set]
  exact hk
theorem OM {f:Nat→Option Blk} {sz g len t:Nat} {s:AV} {rs xs:List (List AV)} {rd:List Nat} (hx:rowsOf f sz s=some (xs,rd)) (hm:f g=some (.rows t sz rs)) (hl:len=rs.length) (hxl:xs.length=len) (hg:g∉rd)
    (hk:κ (.int .i64 len,[(g,some (.rows t sz xs))],g :: rd)):nJ (wI f sz (.slm g len) s) κ:=by
  have:wI f sz (.slm g len) s=some { v:=.int .i64 len,ups:=[(g,some (.rows t sz xs))],rd:=g :: rd }:=by
    simp only [wI,hx,hm]
    rw [if_pos ⟨trivial,hl,hg⟩]
    rw [hxl,Int.min_self,F3 (by omega),List.drop_eq_nil_of_le (by omega),N3]
  rw [this]
  exact hk
end
theorem gH {α:Type} {enc:α→List AV} (h:∀ x,pures (enc x)=true) (L:List Nat) (l:List α):oM L (l.map enc)=true:=vA _ (bQ h l)
theorem pN {α:Type} {enc:α→List AV} (h:∀ x,pures (enc x)=true) (l:List α):sY (l.map enc)=[]:=vE _ (bQ h l)
theorem ix_rows (L:List Nat) (t sz:Nat) (rs:List (List AV)):Blk.inN L (.rows t sz rs)=oM L rs:=rfl
theorem nm_rows (t sz:Nat) (rs:List (List AV)):Blk.nms (.rows t sz rs)=sY rs:=rfl
theorem inss_cons (L:List Nat) (x:List AV) (l:List (List AV)):oM L (x :: l)=(jX L x && oM L l):=rfl
theorem inss_nil (L:List Nat):oM L []=true:=rfl
theorem nmss_cons (x:List AV) (l:List (List AV)):sY (x :: l)=jL x ++ sY l:=rfl
theorem nmss_nil:sY []=[]:=rfl
theorem ins_cons (L:List Nat) (x:AV) (l:List AV):jX L (x :: l)=(x.inN L && jX L l):=rfl
theorem ins_nil (L:List Nat):jX L []=true:=rfl
theorem nms_cons (x:AV) (l:List AV):jL (x :: l)=x.nms ++ jL l:=rfl
theorem nms_nil:jL []=[]:=rfl
theorem pk_nil (b:Nat) (acc:List Nat):fA b [] acc=acc:=rfl
theorem pk_cons (b g:Nat) (l acc:List Nat):fA b (g :: l) acc=if b≤g then (if acc.contains g then fA b l acc else fA b l (acc ++ [g])) else fA b l acc:=rfl
theorem on_nil (b:Nat):Jj b []=[]:=rfl
theorem on_cons (b g:Nat) (B:Blk) (l:AM):Jj b ((g,B) :: l)=if g<b then B.nms ++ Jj b l else Jj b l:=rfl
theorem nn_nil (k:Nat):Sj k []=[]:=rfl
theorem nn_cons (k g:Nat) (l:List Nat):Sj k (g :: l)=(g,k) :: Sj (k+1) l:=rfl
theorem bG {α:Type} {l:List α} {i:Nat} {x d:α} (h:i<l.length):(l.set i x).getD i d=x:=by
  rw [E6,List.getElem?_set_self h]; rfl
theorem set_set {α:Type} (l:List α) (i:Nat) (x y:α):(l.set i x).set i y=l.set i y:=List.set_set ..
section
variable {P:Program} {κ:Ef→Prop} {m:AM} {b:Nat}
theorem LB {f:Nat→Option Blk} {g len t sz:Nat} {rs:List (List AV)} {k:IntKind} {i:Int} (hm:f g=some (.rows t sz rs)) (hi:0≤i∧i<len) (hk:κ (.ptr g i.toNat 0,[],[g])):nJ (eN f sz (.slm g len) (.int k i)) κ:=by
  have:eN f sz (.slm g len) (.int k i)=some { v:=.ptr g i.toNat 0,rd:=[g] }:=by
    simp only [eN,hm]
    rw [if_pos ⟨trivial,hi⟩]
  rw [this]
  exact hk
theorem wM {v:AV} {e:Ef} (hb:(m.map (·.1)).Nodup) (h0:m.all (fun p=>decide (1≤p.1))=true) (hz:m.all (fun p=>jG p.2)=true) (h1:e.2=([],[])) (hw:Wk (v.tr (stT 1 1 (m.map (·.1)) [] m)) e.1):gM 1 [] e v m b :=
  iW hb (fun p hp=>by simpa using G4.1 h0 p hp) hz h1 hw
end
theorem bN (f:Nat→Option Blk) (n:Nat) (ag:Bool) (g o:Nat):cS f n ag (.ptr g 0 o)=(match f g with | some (.rows _ _ (r :: _))=>(part o n ag r).map fun v=>{ v:=v,rd:=[g] } | _=>none):=by
  simp only [cS]
  cases f g with
  | none=>rfl
  | some B =>
    cases B with
    | mp es=>rfl
    | rows t sz rs=>cases rs <;> rfl
theorem bD (f:Nat→Option Blk) (n:Nat) (ag:Bool) (cells:List AV):cS f n ag (.pv cells)=(part 0 n ag cells).map fun v=>{ v:=v }:=rfl
theorem bO (f:Nat→Option Blk) (n g o:Nat) (v:AV):cW f n (.ptr g 0 o) v=(match f g with | some (.rows t sz (r :: rs))=>if v.cells.length=n∧o+n≤r.length∧v.cells.all AV.one then some { v:=.und,ups:=[(g,some (.rows t sz (aJ r o v.cells :: rs)))],rd:=[g] } else none | _=>none):=by
  simp only [cW]
  cases f g with
  | none=>rfl
  | some B =>
    cases B with
    | mp es=>rfl
    | rows t sz rs=>cases rs <;> rfl
theorem take_maps {α β:Type} (enc:α→β) (l:List α) (i:Nat) (y:α):((l.set i y).map enc).take l.length=(l.set i y).map enc:=F3 (by simp)
section
variable {P:Program} {κ:Ef→Prop} {m:AM} {b:Nat}
theorem AC.own1 {f:FuncId} {args:List AV} {v:AV} {g:Nat} {B B':Blk} {rd:List Nat} (h:sD P f args (v,[(g,some B')],rd) (AM.get [(g,B)]) b) (h1:1≤b) (hg:g<b - 1) (hm:m.get g=some B) (hB:jG B=true) (hB':jG B'=true)
    (hargs:jX [g] args=true) (hv:v.inN [g]=true) (hκ:κ (v,[(g,some B')],[g])):AC P f args m b κ:=by
  have hpB:∀ (T:Tr) (B:Blk),jG B=true→B.tr T=B:=by
    intro T B hB
    cases B with
    | rows t sz rs=>simp only [Blk.tr,pR T rs hB]
    | mp es=>cases hB
  have hget:∀ n,J0 [(g,B)] n=if n=g then some B else none:=fun n=>rfl
  have hup:jR b b g=g:=by unfold jR; rw [if_pos (by omega),if_neg (by omega)]
  have hfix:∀ k,k∈[g]→(mU b b).fixes k:=fun k hk=>by
    have:k=g:=by simpa using hk
    subst this
    exact ⟨fun r o=>by show AV.ptr (jR b b k) r o=_; rw [hup],fun l=>by show AV.slm (jR b b k) l=_; rw [hup],by show AV.mapm (jR b b k)=_; rw [hup]⟩
  refine ⟨_,mS (kz:=false) (Z:=[]) (args':=args) (m:=m.get) (m0:=[(g,B)]) h h1 (G1 b) (fun n C hC=>?_) (fun n=>?_) (fun T _ n C hC=>?_) (fun k hk=>by cases hk) ?_ (fun p hp=>?_) (.inr (.inl rfl)),?_⟩
  · rw [hget] at hC
    split at hC
    · rename_i e; subst e; cases hC; exact ⟨hg,hm⟩
    · cases hC
  · rw [hget]
    by_cases e:n=g <;> simp [e]
  · rw [hget] at hC
    split at hC
    · cases hC; exact hpB T _ hB
    · cases hC
  · refine jD (L:=[g]) (fun k hk=>?_) args hargs
    have:k=g:=by simpa using hk
    subst this
    exact ⟨fun r o=>by simp [rI],fun l=>by simp [rI],by simp [rI]⟩
  · have:p=(g,some B'):=by simpa using hp
    subst this
    exact ⟨by simp only []; omega,fun _=>by simp only [hget]; simp⟩
  · rw [AV.tr_inN hfix v hv]
    simp only [lT,G0,if_false,I9,N4,T6,rG,hup,L9,hpB _ B' hB',N3]
    exact hκ
end
section
variable {P:Program} {env:List AV} {m:AM} {b:Nat}
def GY (b0:Nat) (U:KE) (K:KX):KX
  | .normal,env,m,b=>b0≤b∧U env m b
  | .exit i,env,m,b=>K (.exit i) env m b
  | .ret,env,m,b=>K .ret env m b
def Mu (P:Program) (b0:Nat) (ac:ACode) (K:KX):Nat→KE
  | 0,_,_,_=>False
  | k+1,env,m,b=>vc P b0 ac (GY b0 (Mu P b0 ac K k) K) env m b
theorem kS {b0:Nat} {ac:ACode} {K:KX} (k:Nat) (hb:b0≤b) (h:Mu P b0 ac K k env m b):LP b0 (vc P b0 ac) K env m b:=by
  refine ⟨fun n env m b=>Mu P b0 ac K n env m b,⟨k,env,m,b,SubS.refl _ _ _ _,hb,h⟩,fun n env m b _ hI=>?_⟩
  cases n with
  | zero=>exact hI.elim
  | succ n =>
    refine Ao (fun e env' m' b' he=>?_) hI
    cases e with
    | normal=>exact ⟨n,env',m',b',Nat.lt_succ_self n,SubS.refl _ _ _ _,he.1,he.2⟩
    | exit i=>exact he
    | ret=>exact he
theorem un_1 {b0:Nat} {ac:ACode} {K:KX}:Mu P b0 ac K 1 env m b=vc P b0 ac (GY b0 (Mu P b0 ac K 0) K) env m b:=rfl
theorem un_2 {b0:Nat} {ac:ACode} {K:KX}:Mu P b0 ac K 2 env m b=vc P b0 ac (GY b0 (Mu P b0 ac K 1) K) env m b:=rfl
theorem un_3 {b0:Nat} {ac:ACode} {K:KX}:Mu P b0 ac K 3 env m b=vc P b0 ac (GY b0 (Mu P b0 ac K 2) K) env m b:=rfl
theorem un_normal (b0:Nat) (U:KE) (K:KX):GY b0 U K .normal env m b=(b0≤b∧U env m b):=rfl
theorem un_exit (b0:Nat) (U:KE) (K:KX) (i:Nat):GY b0 U K (.exit i) env m b=K (.exit i) env m b:=rfl
theorem un_ret (b0:Nat) (U:KE) (K:KX):GY b0 U K .ret env m b=K .ret env m b:=rfl
end
section
variable {P:Program} {κ:Ef→Prop}
theorem len_nil (f:Nat→Option Blk):lD f .slnil=some { v:=.int .i64 0 }:=rfl
theorem FT {f:Nat→Option Blk} {g len t sz:Nat} {rs:List (List AV)} (hm:f g=some (.rows t sz rs)) (hl:len≤rs.length) (hk:κ (.int .i64 len,[],[g])):nJ (lD f (.slm g len)) κ:=by
  have:lD f (.slm g len)=some { v:=.int .i64 len,rd:=[g] }:=by
    simp only [lD,hm]
    rw [if_pos hl]
  rw [this]
  exact hk
theorem len_slv (f:Nat→Option Blk) (sz:Nat) (rows:List (List AV)):lD f (.slv sz rows)=some { v:=.int .i64 rows.length }:=rfl
end
theorem Nt {m:AM} {b:Nat} {v:AV} {e:Ef} {Z:List Nat} (hZ:fA 1 v.nms []=Z) (hb:(m.map (·.1)).Nodup) (h0:m.all (fun p=>decide (1≤p.1))=true) (hZ1:Z.all (fun g=>decide (1≤g))=true) (hz:fS m Z=true) (h1:e.2=([],[])) (hw:Wk (v.tr (stT 1 1 Z [] m)) e.1):gM 1 [] e v m b :=
  Ns Z hb (fun p hp=>by simpa using G4.1 h0 p hp) (fun g hg=>by simpa using G4.1 hZ1 g hg) hz h1 hw

structure Config where
  lg:Int
  th:Int
  pol:Int
  wt:Int
  spin:Int
  yld:Int
  single:Bool
  deriving DecidableEq
structure State where
  cfg:Config
  word:Word
  slots:List Slot
  sends:List Int
  recvs:List Int
  full:Event
  empty:Event
  now:Int
  threads:List Thread
  log:List Entry
  deriving DecidableEq
def kZ (c:Config):List AV:=[.int .i64 c.lg,.int .i64 c.th,.int .i64 c.pol,.int .i64 c.wt,.int .i64 c.spin,.int .i64 c.yld,.bool c.single]
def dM (s:State) (T L:AV):List AV:=[.int .i64 s.cfg.lg,.int .i64 s.cfg.th,.int .i64 s.cfg.pol,.int .i64 s.cfg.wt,.int .i64 s.cfg.spin,.int .i64 s.cfg.yld,.bool s.cfg.single,
  .int .i64 s.word.h,.int .i64 s.word.t,.int .i64 s.word.m,.slv 2 (s.slots.map cU),.slv 1 (s.sends.map aS),.slv 1 (s.recvs.map aS),.int .i64 s.full.ep,.slv 1 (s.full.ln.map aS),.int .i64 s.empty.ep,.slv 1 (s.empty.ln.map aS),.int .i64 s.now,T,L]
def bR (s:State):List AV:=dM s (.slv 11 (s.threads.map bH)) (.slv 5 (s.log.map cO))
def cI (wt:Int):Int:=if wt=2 then 8 else 0
def dT (c:Config):Bool:=cD c.lg 1 6 && cD c.th 1 16 && cD c.pol 0 2 && cD c.wt 0 3 && cD c.spin 0 (cI c.wt) && cD c.yld 0 (cI c.wt)
def eG (c:Config):Int:=if dT c then 0 else 20
def fL (c:Config):Int:=if dT c then 2 ^ c.lg.toNat else 0
def tI (c:Config) (n:Int):Int :=
  if ¬ dT c then 0 else if c.wt=0 then 0 else if c.wt=1 then 1 else if c.wt=3 then 2 else if max n 0<c.spin then 0 else if max n 0<c.spin+c.yld then 1 else 2

def jM (l:List Slot) (p:Int):Nat:=(iI p l.length).toNat
def gO (l:List Slot) (p val:Int):List Slot×Int :=
  if p<0∨¬ dA l then (l,40) else if ¬ hP l p then (l,30) else (l.set (jM l p) ⟨(l.getD (jM l p) default).stamp,val⟩,0)
def tD (l:List Slot) (p:Int):Int×Int :=
  if p<0∨¬ dA l∨¬ hP l p then (0,40) else ((l.getD (jM l p) default).val,0)
def eY (l:List Slot) (p:Int):List Slot×Int :=
  if p<0∨¬ dA l∨¬ hP l p then (l,40) else if p > 1099511627776 then (l,40) else (l.set (jM l p) ⟨(l.getD (jM l p) default).stamp+l.length,(l.getD (jM l p) default).val⟩,0)

def iX (l:List Int) (id:Int):List Int×Int:=if gY l id<0 then (l,40) else (l.eraseIdx (gY l id).toNat,0)
def fI (e:Event):Event×Int×Bool :=
  if ¬ eZ e then (e,0,false) else match e.ln with
    | []=>(⟨min (e.ep+1) 1099511627776,[]⟩,0,false)
    | x :: l=>(⟨min (e.ep+1) 1099511627776,l⟩,x,true)
def dH (e:Event):Event×List Int:=if ¬ eZ e then (e,[]) else (⟨min (e.ep+1) 1099511627776,[]⟩,e.ln)
def gJ (e:Event) (id:Int):Event×Bool:=if ¬ eZ e∨(iX e.ln id).2≠0 then (e,false) else (⟨e.ep,(iX e.ln id).1⟩,true)

def dG (threads:Int) (l:List Int):Bool:=gX l && !l.any (fun id=>decide (id<0) || decide (id≥threads))
def bZ (s:State):Bool :=
  decide (fL s.cfg≠0) && cT s.word (fL s.cfg) && decide ((s.slots.length:Int)=fL s.cfg) && dA s.slots &&
  dG s.cfg.th s.sends && dG s.cfg.th s.recvs && dG s.cfg.th s.full.ln && dG s.cfg.th s.empty.ln && eZ s.full && eZ s.empty &&
  decide (s.now≥0) && decide (s.now≤1099511627776) && decide ((s.threads.length:Int)=s.cfg.th) && !s.threads.any (fun t=>!cZ t)
def cN (s:State) (id:Int):Bool:=bZ s && decide (id≥0) && decide (id<s.threads.length)
def sP (s:State) (p:Int):Int:=if ¬ bZ s∨p<0 then 0 else (s.slots.getD (jM s.slots p) default).val
def me (s:State) (id:Int):Thread:=s.threads.getD id.toNat default
def dD (s:State) (id:Int) (t:Thread):State:=⟨s.cfg,s.word,s.slots,s.sends,s.recvs,s.full,s.empty,s.now,s.threads.set id.toNat t,s.log⟩
def cM (s:State) (id:Int):State:=if cN s id then dD s id (oR (me s id)) else s
def nY (t:Thread) (kind res got:Int):Thread:=if kind≠9 then ⟨t.st,t.kind,t.val,t.untl,t.pc,t.reg,t.seen,t.tries,t.late,res,got⟩ else t
def logged (s:State) (e:Entry):State:=⟨s.cfg,s.word,s.slots,s.sends,s.recvs,s.full,s.empty,s.now,s.threads,s.log ++ [e]⟩
def eO (s:State) (id kind res got:Int):State:=if cN s id then logged (dD s id (nY (me s id) kind res got)) ⟨id,kind,(me s id).val,res,got⟩ else s
def fN (s:State) (id kind val untl:Int):State×Int :=
  if ¬ bZ s then (s,20) else if uJ s.cfg.th s.cfg.single id kind≠0 then (s,uJ s.cfg.th s.cfg.single id kind) else
    if cN s id then (dD s id (jA (me s id) kind val untl).1,(jA (me s id) kind val untl).2) else (s,0)
def iD (t:Thread) (pc:Int):Thread:=⟨t.st,t.kind,t.val,t.untl,pc,t.reg,t.seen,t.tries,t.late,t.res,t.got⟩
def fB (t:Thread) (reg:Int):Thread:=⟨t.st,t.kind,t.val,t.untl,t.pc,reg,t.seen,t.tries,t.late,t.res,t.got⟩
def eP (t:Thread) (seen:Int):Thread:=⟨t.st,t.kind,t.val,t.untl,t.pc,t.reg,seen,t.tries,t.late,t.res,t.got⟩
def dU (t:Thread) (tries:Int):Thread:=⟨t.st,t.kind,t.val,t.untl,t.pc,t.reg,t.seen,tries,t.late,t.res,t.got⟩
def cK (s:State) (w:Word):State:=⟨s.cfg,w,s.slots,s.sends,s.recvs,s.full,s.empty,s.now,s.threads,s.log⟩
def cR (s:State) (l:List Slot):State:=⟨s.cfg,s.word,l,s.sends,s.recvs,s.full,s.empty,s.now,s.threads,s.log⟩
def eJ (s:State) (l:List Int):State:=⟨s.cfg,s.word,s.slots,l,s.recvs,s.full,s.empty,s.now,s.threads,s.log⟩
def eI (s:State) (l:List Int):State:=⟨s.cfg,s.word,s.slots,s.sends,l,s.full,s.empty,s.now,s.threads,s.log⟩
def cQ (s:State) (e:Event):State:=⟨s.cfg,s.word,s.slots,s.sends,s.recvs,e,s.empty,s.now,s.threads,s.log⟩
def cH (s:State) (e:Event):State:=⟨s.cfg,s.word,s.slots,s.sends,s.recvs,s.full,e,s.now,s.threads,s.log⟩
def kM (s:State) (id pc:Int):State:=dD s id (iD (me s id) pc)
def gD (s:State) (id kind res got pc:Int):State:=kM (eO s id kind res got) id pc
def fZ (s:State) (id res leave:Int):State:=gD s id (me s id).kind res 0 leave
def vI (s:State) (id:Int):State:=dD s id (dU (me s id) (min ((me s id).tries+1) 1099511627776))
def Ly (s:State) (id:Int):State:=kM (eJ s (iC s.sends id).1) id 1
def vM (s:State) (id:Int):State:=if gY s.sends id=0 then kM s id 2 else if (me s id).late then fZ s id 5 9 else vI s id
def Cr (s:State) (id:Int):State :=
  if s.cfg.pol=1 then fZ s id 3 9 else if s.cfg.pol=2 then kM (dD s id (fB (me s id) s.word.h)) id 10 else if (me s id).kind=2 then fZ s id 2 9 else
    if (me s id).late then fZ s id 5 9 else if tI s.cfg (me s id).tries=2 then kM s id 5 else vI s id
def Ct (s:State) (id:Int):State :=
  if (tH s.word s.slots.length).1=1 then kM (dD s id (fB (me s id) s.word.t)) id 3 else if (tH s.word s.slots.length).1=2 then Cr s id else fZ s id (tH s.word s.slots.length).1 9
def vN (s:State) (id:Int):State :=
  if (gO s.slots (me s id).reg (me s id).val).2=0 then kM (cR s (gO s.slots (me s id).reg (me s id).val).1) id 4 else s
def rC (s:State) (id:Int):State :=
  let r:=jQ s.word s.slots.length
  if r.2.2=1 then gD (cK s r.1) id (me s id).kind 1 0 6 else if r.2.2=2 then kM (cK s r.1) id 2 else fZ (cK s r.1) id r.2.2 9
def xE (s:State) (id:Int):State:=kM (dD s id (eP (me s id) (oC s.full))) id 7
def rE (s:State) (id:Int):State :=
  let r:=fI s.empty
  kM (if r.2.2 then cM (cH s r.1) r.2.1 else cH s r.1) id 9
def vK (s:State) (id:Int):State:=if (tH s.word s.slots.length).1=2∧¬ (me s id).late then kM s id 8 else kM s id 2
def rD (s:State) (id:Int):State :=
  if (me s id).late then kM s id 2 else
    let r:=kF s.full (me s id).seen id
    if r.2.1 then dD (cQ s r.1) id (Cw (iD (me s id) 2) 2).1 else kM (cQ s r.1) id 2
def Cs (s:State) (id:Int):State:=dD (eJ s (iX s.sends id).1) id (xG (me s id)).1
def vL (s:State) (id:Int):State :=
  let r:=rJ s.word s.slots.length (me s id).reg
  if ¬ r.2 then kM (cK s r.1) id 2 else gD (cK s r.1) id 9 1 (sP s (me s id).reg) 11
def nV (s:State) (id:Int):State :=
  if (eY s.slots (me s id).reg).2=0 then kM (cR s (eY s.slots (me s id).reg).1) id 2 else kM s id 2
def nP (s:State) (id:Int):Bool:=cN s id && decide (kB (me s id)=0) && decide (kJ (me s id).kind=1)
def oQ (s:State) (id:Int):State :=
  if ¬ nP s id then s else match (me s id).pc.toNat with
    | 0=>Ly s id
    | 1=>vM s id
    | 2=>Ct s id
    | 3=>vN s id
    | 4=>rC s id
    | 5=>xE s id
    | 6=>rE s id
    | 7=>vK s id
    | 8=>rD s id
    | 9=>Cs s id
    | 10=>vL s id
    | 11=>nV s id
    | _=>s
set_option linter.unusedSimpArgs false
def jY (M:AM):List Nat→AM
  | []=>[]
  | g :: l=>match M.get g with
    | some B=>(g,B) :: jY M l
    | none=>jY M l
def sV (M:AM):List Nat→List Nat
  | []=>[]
  | g :: l=>match M.get g with
    | some B=>B.nms ++ sV M l
    | none=>sV M l
def grow1 (M:AM) (l:List Nat):List Nat:=fA 1 (sV M l) l
def reachM (M:AM) (l:List Nat):List Nat:=grow1 M (grow1 M l)
theorem yP:∀ {M:AM} {l:List Nat} {p:Nat×Blk},p∈jY M l→M.get p.1=some p.2
  | M,[],p,h=>by cases h
  | M, g :: l,p,h=>by
    simp only [jY] at h
    split at h
    · rename_i B hB
      rcases N2.1 h with rfl | h
      · exact hB
      · exact yP h
    · exact yP h
theorem tY {M m:AM} {l:List Nat} (h:jY M l=m) {p:Nat×Blk} (hp:p∈m):M.get p.1=some p.2:=yP (h ▸ hp)
section
variable {P:Program} {κ:Ef→Prop} {m:AM} {b:Nat}
theorem AC.inlD {M:AM} {f:FuncId} {A:AFn} {args:List AV} (hmix:P.follows .mixedOrders=true) (hA:xf P f=some A) (hn:args.length≤A.n) (h1:1≤b) (hM:jY M (reachM M (fA 1 (jL args) []))=m) (hnd:(m.map (·.1)).Nodup) (h0:m.all (fun p=>decide (p.1<b - 1) && p.2.inN (m.map (·.1)))=true)
    (hargs:jX (m.map (·.1)) args=true) (h:∃ l m' b',Dk b m κ (iF l) m' b'∧∀ e,gM b m e (iF l) m' b'→vc P b A.code (gP A.res (gM b m e)) (args ++ M0 (A.n - args.length) .und) m b):AC P f args M b κ:=by
  obtain ⟨l,m',b',⟨Z,ren,k1,k2,k3,k4⟩,hall⟩:=h
  generalize hv':(iF l).tr (stT b (b+15) Z ren m')=v' at k3 k4
  generalize hm2:stM b (b+15) Z ren (stT b (b+15) Z ren m') m'=m2 at k3 k4
  simp only [inlOk,D9,decide_eq_true_eq,G4] at k3
  obtain ⟨⟨q1,q2⟩,q3⟩:=k3
  have hs:=SubS.step (env:=[iF l]) (b:=b') k1 k2
  rw [hm2] at hs
  have hmcb:sD P f args (v',inlU m m2,[]) m.get b:=aI hmix hA hn fun _ _=>hall _ ⟨v',m2,b+16,by rw [← hv']; exact hs,G1 _,mP q1,rfl⟩
  have hlt:∀ n B,m.get n=some B→n<b - 1:=fun n B hB=>by
    have:=G4.1 h0 _ (AM.mem_of_get hB)
    simp only [D9,decide_eq_true_eq] at this
    exact this.1
  have hks:∀ n,n∈m.map (·.1)↔(m.get n).isSome=true:=fun n=>⟨fun hm=>by
    obtain ⟨⟨k,B⟩,hk,rfl⟩:=G5.1 hm
    rw [AM.get_of_mem hnd hk]; rfl,fun hs=>by
    obtain ⟨B,hB⟩:=G2.1 hs
    exact G5.2 ⟨(n,B),AM.mem_of_get hB,rfl⟩⟩
  have fixU:∀ g,g∈m2.map (·.1)→jR b b g=g:=by
    intro g hg
    obtain ⟨p,hp,rfl⟩:=G5.1 hg
    have:=q2 p hp
    simp only [H9,decide_eq_true_eq,H6] at this
    obtain ⟨⟨r1,r2⟩,_⟩:=this
    unfold jR
    by_cases hb:p.1<b
    · rcases r2 with r2 | r2
      · omega
      · obtain ⟨B,hB⟩:=G2.1 ((hks _).1 r2)
        have:=hlt _ B hB
        rw [if_pos hb,if_neg (by omega)]
    · rw [if_neg hb,if_pos r1]; omega
  have hT:∀ g,g∈m2.map (·.1)→(mU b b).fixes g:=fun g hg=>⟨fun r o=>by show AV.ptr (jR b b g) r o=_; rw [fixU g hg],fun l=>by show AV.slm (jR b b g) l=_; rw [fixU g hg],by show AV.mapm (jR b b g)=_; rw [fixU g hg]⟩
  have hupsm:(inlU m m2).map (rG b b)=inlU m m2:=by
    conv=>rhs; rw [← Z7 (inlU m m2)]
    refine O7 fun p hp=>?_
    unfold inlU at hp
    rcases N9.1 hp with hp | hp
    · obtain ⟨q,hq,rfl⟩:=G5.1 hp
      have:=hlt q.1 q.2 (AM.get_of_mem hnd hq)
      simp only [rG,id_eq,R5,Prod.mk.injEq,and_true]
      unfold jR
      rw [if_pos (by omega),if_neg (by omega)]
    · obtain ⟨q,hq,rfl⟩:=G5.1 hp
      have:=q2 q hq
      simp only [rG,id_eq,L9,fixU q.1 (G5.2 ⟨q,hq,rfl⟩)]
      rw [Blk.tr_inN hT this.2]
  have:=mS (kz:=false) (Z:=[]) (args':=args) (m:=M.get) hmcb h1 (G1 b) (fun n B hB=>⟨hlt n B hB,tY hM (AM.mem_of_get hB)⟩) hks (fun T hT' n B hB=>?_) (fun g hg=>by cases hg) ?_ (fun p hp=>?_) (.inr (.inl rfl))
  · refine ⟨_,this,?_⟩
    rw [AV.tr_inN hT _ q3]
    simp only [lT,I9,G0,if_false,hupsm,N3]
    exact k4
  · have hB':=G4.1 h0 _ (AM.mem_of_get hB)
    simp only [D9] at hB'
    exact Blk.tr_inN (fun g hg=>hT' g ((hks g).1 hg)) hB'.2
  · refine jD (fun g hg=>?_) args hargs
    have hc:(m.map (·.1)).contains g=true:=H6.2 hg
    exact ⟨fun r o=>by simp only [rI,hc]; simp,fun l=>by simp only [rI,hc]; simp,by simp only [rI,hc]; simp⟩
  · unfold inlU at hp
    rcases N9.1 hp with hp | hp
    · obtain ⟨q,hq,rfl⟩:=G5.1 hp
      have hg:=AM.get_of_mem hnd hq
      have:=hlt q.1 q.2 hg
      exact ⟨by simp only []; omega,fun _=>by simp only [hg]; rfl⟩
    · obtain ⟨q,hq,rfl⟩:=G5.1 hp
      have:=q2 q hq
      simp only [H9,decide_eq_true_eq,H6] at this
      refine ⟨this.1.1,fun hb=>?_⟩
      rcases this.1.2 with r | r
      · omega
      · exact (hks _).1 r
theorem AC.inl2 {M:AM} {f:FuncId} {A:AFn} {args:List AV} (hmix:P.follows .mixedOrders=true) (hA:xf P f=some A) (hlf:A.code.lf=true) (hn:args.length≤A.n) (h1:1≤b) (hM:jY M (reachM M (fA 1 (jL args) []))=m) (hnd:(m.map (·.1)).Nodup) (h0:m.all (fun p=>decide (p.1<b - 1) && p.2.inN (m.map (·.1)))=true)
    (hargs:jX (m.map (·.1)) args=true) (h:vc P b A.code (gP A.res (Dk b m κ)) (args ++ M0 (A.n - args.length) .und) m b):AC P f args M b κ:=by
  obtain ⟨x,env',m',b',hk,hall⟩:=Me hlf h
  have main:∀ l,resL env' m'.get A.res=some l→(∀ e,gM b m e (iF l) m' b'→gP A.res (gM b m e) x env' m' b')→Dk b m κ (iF l) m' b'→AC P f args M b κ:=fun l _ hfin hi =>
    AC.inlD hmix hA hn h1 hM hnd h0 hargs ⟨l,m',b',hi,fun e he=>hall _ (hfin e he)⟩
  cases x with
  | exit i=>exact hk.elim
  | normal =>
    cases hl:resL env' m'.get A.res with
    | none=>simp only [gP,hl,lO] at hk
    | some l=>exact main l hl (fun e he=>by simp only [gP,hl,lO]; exact he) (by simpa only [gP,hl,lO] using hk)
  | ret =>
    cases hl:resL env' m'.get A.res with
    | none=>simp only [gP,hl,lO] at hk
    | some l=>exact main l hl (fun e he=>by simp only [gP,hl,lO]; exact he) (by simpa only [gP,hl,lO] using hk)

def FK (b:Nat) (m:AM) (κ:Ef→Prop) (v:AV) (m':AM) (b':Nat):Prop:=stOk b (b+15) [] [] m'=true∧stM b (b+15) [] [] (stT b (b+15) [] [] m') m'=m∧(v.tr (stT b (b+15) [] [] m')).inN (m.map (·.1))=true∧κ (v.tr (stT b (b+15) [] [] m'),[],m.map (·.1))
theorem dE {m':AM} {b':Nat} {v:AV} (h1:stOk b (b+15) [] [] m'=true) (h2:stM b (b+15) [] [] (stT b (b+15) [] [] m') m'=m) (h3:(v.tr (stT b (b+15) [] [] m')).inN (m.map (·.1))=true) (h4:κ (v.tr (stT b (b+15) [] [] m'),[],m.map (·.1))):FK b m κ v m' b':=⟨h1,h2,h3,h4⟩
theorem AC.inr2 {M:AM} {f:FuncId} {A:AFn} {args:List AV} (hmix:P.follows .mixedOrders=true) (hA:xf P f=some A) (hlf:A.code.lf=true) (hn:args.length≤A.n) (h1:1≤b) (hM:jY M (reachM M (fA 1 (jL args) []))=m) (hnd:(m.map (·.1)).Nodup) (h0:m.all (fun p=>decide (p.1<b - 1) && p.2.inN (m.map (·.1)))=true)
    (hargs:jX (m.map (·.1)) args=true) (h:vc P b A.code (gP A.res (FK b m κ)) (args ++ M0 (A.n - args.length) .und) m b):AC P f args M b κ:=by
  obtain ⟨x,env',m',b',hk,hall⟩:=Me hlf h
  have main:∀ l,resL env' m'.get A.res=some l→(∀ e,gM b m e (iF l) m' b'→gP A.res (gM b m e) x env' m' b')→FK b m κ (iF l) m' b'→AC P f args M b κ:=by
    rintro l hl hfin ⟨k1,k2,k3,k4⟩
    generalize hv':(iF l).tr (stT b (b+15) [] [] m')=v' at k3 k4
    have hs:=SubS.step (env:=[iF l]) (b:=b') k1 (rfl:fS m' []=true)
    rw [k2] at hs
    have hmcb:sD P f args (v',[],[]) m.get b:=aI hmix hA hn fun _ _=>hall _ (hfin _ ⟨v',m,b+16,by rw [← hv']; exact hs,G1 _,rfl,rfl⟩)
    have hlt:∀ n B,m.get n=some B→n<b - 1:=fun n B hB=>by
      have:=G4.1 h0 _ (AM.mem_of_get hB)
      simp only [D9,decide_eq_true_eq] at this
      exact this.1
    have hks:∀ n,n∈m.map (·.1)↔(m.get n).isSome=true:=fun n=>⟨fun hm=>by
      obtain ⟨⟨k,B⟩,hk,rfl⟩:=G5.1 hm
      rw [AM.get_of_mem hnd hk]; rfl,fun hs=>by
      obtain ⟨B,hB⟩:=G2.1 hs
      exact G5.2 ⟨(n,B),AM.mem_of_get hB,rfl⟩⟩
    have hT:∀ g,g∈m.map (·.1)→(mU b b).fixes g:=fun g hg=>by
      obtain ⟨B,hB⟩:=G2.1 ((hks g).1 hg)
      have:=hlt g B hB
      have hu:jR b b g=g:=by unfold jR; rw [if_pos (by omega),if_neg (by omega)]
      exact ⟨fun r o=>by show AV.ptr (jR b b g) r o=_; rw [hu],fun l=>by show AV.slm (jR b b g) l=_; rw [hu],by show AV.mapm (jR b b g)=_; rw [hu]⟩
    have:=mS (kz:=false) (Z:=[]) (args':=args) (m:=M.get) hmcb h1 (G1 b) (fun n B hB=>⟨hlt n B hB,tY hM (AM.mem_of_get hB)⟩) hks (fun T hT' n B hB=>?_) (fun g hg=>by cases hg) ?_ (fun p hp=>by cases hp) (.inr (.inl rfl))
    · refine ⟨_,this,?_⟩
      rw [AV.tr_inN hT _ k3]
      simp only [lT,I9,G0,if_false,T6,N3]
      exact k4
    · have hB':=G4.1 h0 _ (AM.mem_of_get hB)
      simp only [D9] at hB'
      exact Blk.tr_inN (fun g hg=>hT' g ((hks g).1 hg)) hB'.2
    · refine jD (fun g hg=>?_) args hargs
      have hc:(m.map (·.1)).contains g=true:=H6.2 hg
      exact ⟨fun r o=>by simp only [rI,hc]; simp,fun l=>by simp only [rI,hc]; simp,by simp only [rI,hc]; simp⟩
  cases x with
  | exit i=>exact hk.elim
  | normal =>
    cases hl:resL env' m'.get A.res with
    | none=>simp only [gP,hl,lO] at hk
    | some l=>exact main l hl (fun e he=>by simp only [gP,hl,lO]; exact he) (by simpa only [gP,hl,lO] using hk)
  | ret =>
    cases hl:resL env' m'.get A.res with
    | none=>simp only [gP,hl,lO] at hk
    | some l=>exact main l hl (fun e he=>by simp only [gP,hl,lO]; exact he) (by simpa only [gP,hl,lO] using hk)
def ACN (P:Program) (f:FuncId) (args:List AV) (Z:List Nat) (b:Nat) (κ:Ef→Prop):Prop:=∃ v B,cX P f args (v,[(1,some B)],[])∧κ (v.tr (mU 1 b),Z.map (fun g=>(g,none)) ++ [(b,some (B.tr (mU 1 b)))],Z)
theorem AC.gna (f:FuncId) {args:List AV} {Z:List Nat} (hZ:fA 1 (jL args) []=Z) (hb:1≤b) (hz:fS m Z=true) (h:ACN P f (trs (rI m.get [] 1 Z) args) Z b κ):AC P f args m b κ:=by
  obtain ⟨v,B,h1,h2⟩:=h
  exact AC.gn1 Z h1 hb hz h2
theorem ACN.of {f:FuncId} {args:List AV} {Z:List Nat} {v:AV} {B:Blk} (h:cX P f args (v,[(1,some B)],[])) (hk:κ (v.tr (mU 1 b),Z.map (fun g=>(g,none)) ++ [(b,some (B.tr (mU 1 b)))],Z)):ACN P f args Z b κ:=⟨v,B,h,hk⟩
theorem rm_nil (M:AM):jY M []=[]:=rfl
theorem rm_cons (M:AM) (g:Nat) (l:List Nat):jY M (g :: l)=(match M.get g with | some B=>(g,B) :: jY M l | none=>jY M l):=rfl
theorem nm_nil (M:AM):sV M []=[]:=rfl
theorem nm_cons (M:AM) (g:Nat) (l:List Nat):sV M (g :: l)=(match M.get g with | some B=>B.nms ++ sV M l | none=>sV M l):=rfl
theorem cE {s:State} {i k r g:Int}:(eO s i k r g).threads.length=s.threads.length:=by
  unfold eO; split <;> simp [logged,dD]
theorem cG {s:State} {i:Int}:(cM s i).threads.length=s.threads.length:=by
  unfold cM; split <;> simp [dD]
end
structure Cal where
  k:Int
  th:Int
  v:Int
  u:Int
  deriving DecidableEq
def lE (x:Cal):List AV:=[.int .i64 x.k,.int .i64 x.th,.int .i64 x.v,.int .i64 x.u]
def My (n:Int):Bool:=decide (0≤n) && decide (n≤1099511627776)
def vX (w:Cal):Cal:=⟨w.k,if w.k=11 then 0 else w.th,if w.k=11∨kJ w.k=1 then w.v else 0,if iE w.k=true then w.u else 0⟩
def lW (x:Cal):Int :=
  if (¬ (x.k=11∨x.k=10)∧lI x.k=false)∨x≠vX x∨x.th<0∨x.th≥16 then 190
  else if My x.u=false∨(x.k=11∧My x.v=false) then 50 else 0
end Go.Sak
