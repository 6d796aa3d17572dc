/- Part U03 of the proofs about the program: R, S, T, U, V, W, X, Y, Z, Xa, Zc, Xg. Conditions: none. -/
import Derived.Test.YtahdilehajdhgaaGreatU02
open Go.Sak.AM renaming del→EZ,get→BY,get_upd→DL
open Array renaming getD_eq_getD_getElem?→Zp
open Bool renaming and_eq_true→Zq,and_self→DS,false_eq_true→AK,or_eq_true→AZ
open List renaming all_eq_true→AA,append_nil→BL,contains_iff_mem→AH,findIdx?_eq_none_iff→EL,findIdx?_eq_some_iff_getElem→DE,foldl_cons→BM,getD_eq_getElem?_getD→Zr,getElem?_eq_getElem→Zz,getElem?_eq_some_iff→Zw,getElem?_map→CX,getElem_mem→FT,length_cons→AQ,map_congr_left→BP,map_cons→BG,map_id→EN,map_nil→ED,mem_append→BV,mem_append_right→DK,mem_cons→BN,mem_cons_of_mem→AR,mem_cons_self→BH,mem_map→AG,mem_of_getElem?→AL,mem_range→CB,nil_append→BE,nodup_cons→DC,range→BR,replicate→BZ,take_of_length_le→CS
open Nat renaming add_mul→BJ,le_refl→AP,le_trans→EE,lt_of_lt_of_le→AN,mul_le_mul_right→AI,zero_add→BF,zero_le→BS
open Option renaming isSome_iff_exists→Zx,map_eq_some_iff→Zl,map_none→CU,map_some→BK
open Option.some renaming inj→Zm,injEq→Zn
namespace Go.Sak
open Go Go.RowKit
set_option linter.unusedVariables false
set_option linter.unusedSimpArgs false

inductive Ex where | normal | exit (id:Nat) | ret
def Ex.to:Ex→Exit
  | .normal=>.normal
  | .exit i=>.exit i
  | .ret=>.ret
abbrev KE:=List AV→AM→Nat→Prop
abbrev KX:=Ex→KE

def Dc (P:Program) (f:FuncId) (args:List AV) (e:Ef) (m:Nat→Option Blk) (b:Nat):Prop:=∀ m',(∀ g,g∈e.2.2→m' g=m g)→MC P f args e m' b
def AC (P:Program) (f:FuncId) (args:List AV) (m:AM) (b:Nat) (κ:Ef→Prop):Prop:=∃ e,Dc P f args e m.get b∧κ e
def fP:Option OR→(Ef→Prop)→Prop
  | some r,κ=>κ (r.v,r.ups,r.rd)
  | none,_=>False
def jQ (P:Program):AV→List AV→AM→Nat→(Ef→Prop)→Prop
  | .fn (.func g) first cap,as,m,b,κ=>AC P g (first ++ as ++ cap) m b κ
  | _,_,_,_,_=>False
def rO (P:Program) (tb:List (Nat×Nat)):AV→List AV→AM→Nat→(Ef→Prop)→Prop
  | .iface t v,as,m,b,κ=>match Be tb t with
    | some g=>AC P g (v :: as) m b κ
    | none=>False
  | _,_,_,_,_=>False
def dX (P:Program) (op:AOp) (κ:Ef→Prop) (env:List AV) (m:AM) (b:Nat):Prop :=
  match op with
  | .call f args=>AC P f (args.map (·.eval env)) m b κ
  | .callv x args=>jQ P (x.eval env) (args.map (·.eval env)) m b κ
  | .invoke x tb args=>rO P tb (x.eval env) (args.map (·.eval env)) m b κ
  | x=>fP (aop m.get env b x) κ
def gT (P:Program):Bool→AOp→(Ef→Prop)→List AV→AM→Nat→Prop
  | true,op,κ,env,m,b=>dX P op κ env m b
  | false,_,κ,_,_,_=>κ (.tup [],[],[])
def cU (P:Program):AV→Bool→AOp→(Ef→Prop)→List AV→AM→Nat→Prop
  | .bool t,want,op,κ,env,m,b=>gT P (t == want) op κ env m b
  | .tup [],_,_,κ,_,_,_=>κ (.tup [],[],[])
  | _,_,_,_,_,_,_=>False
def gK (P:Program):Option (Nat×Bool)→AOp→(Ef→Prop)→List AV→AM→Nat→Prop
  | none,op,κ,env,m,b=>dX P op κ env m b
  | some (s,want),op,κ,env,m,b=>cU P (env.getD s .und) want op κ env m b
def xW (k:KE) (d:Option Nat) (env:List AV) (m:AM) (b:Nat) (e:Ef):Prop:=k (gG env d e.1) (m.upd e.2.1) (b+16)
def kA (P:Program):List AO→KE→KE
  | [],k,env,m,b=>k env m b
  | o :: rest,k,env,m,b=>gK P o.guard o.op (xW (kA P rest k) o.dst env m b) env m b
def xX (k:List Ef→KE) (tr:List Ef) (d:Option Nat) (env:List AV) (m:AM) (b:Nat) (e:Ef):Prop:=k (e :: tr) (gG env d e.1) (m.upd e.2.1) (b+16)
def jK (P:Program) (un:List (Nat×Nat)):List AO→KE→List Ef→KE
  | [],k,tr,env,m,b=>dynOk un tr.reverse=true∧k env m b
  | o :: rest,k,tr,env,m,b=>gK P o.guard o.op (xX (jK P un rest k) tr o.dst env m b) env m b

inductive ACode where
  | skip
  | ret
  | exit (id:Nat)
  | seq (x y:ACode)
  | block (id:Nat) (x:ACode)
  | cond (c:Opd) (x y:ACode)
  | loop (x:ACode)
  | reg (ops:List AO)
  | regT (ops:List AO) (un:List (Nat×Nat))

def qO (k:KE) (K:KX):KX
  | .normal,env,m,b=>k env m b
  | .exit i,env,m,b=>K (.exit i) env m b
  | .ret,env,m,b=>K .ret env m b
def gP (id:Nat) (K:KX):KX
  | .exit i,env,m,b=>if i=id then K .normal env m b else K (.exit i) env m b
  | .normal,env,m,b=>K .normal env m b
  | .ret,env,m,b=>K .ret env m b
def lB:Bool→KE→KE→KE
  | true,x,_,env,m,b=>x env m b
  | false,_,y,env,m,b=>y env m b
def nE:AV→KE→KE→KE
  | .bool t,x,y,env,m,b=>lB t x y env m b
  | _,_,_,_,_,_=>False

def SubS (b0:Nat) (env:List AV) (m:AM) (b:Nat) (env':List AV) (m':AM) (b':Nat):Prop :=
  ∀ (c0 c:Ctx) (ts:Array Value),(∀ n,c0.U n→n<b0)→Gd c→St c0 c→c.m=m.get→(∀ n,c.U n→c0.U n∨b0≤n∧n<b)→ER c env ts →
    ∃ c',c'.w=c.w∧Gd c'∧St c0 c'∧c'.m=m'.get∧(∀ n,c'.U n→c0.U n∨b0≤n∧n<b')∧ER c' env' ts
def Bf (b0:Nat) (I:Nat→KE) (n:Nat) (K:KX):KX
  | .normal,env,m,b=>∃ n' env' m' b',n'<n∧SubS b0 env m b env' m' b'∧b0≤b'∧I n' env' m' b'
  | .exit i,env,m,b=>K (.exit i) env m b
  | .ret,env,m,b=>K .ret env m b
def LP (b0:Nat) (body:KX→KE) (K:KX):KE:=fun env m b=>∃ I:Nat→KE,(∃ n env' m' b',SubS b0 env m b env' m' b'∧b0≤b'∧I n env' m' b') ∧
  ∀ n env m b,b0≤b→I n env m b→body (Bf b0 I n K) env m b

def vc (P:Program) (b0:Nat):ACode→KX→KE
  | .skip,K,env,m,b=>K .normal env m b
  | .ret,K,env,m,b=>K .ret env m b
  | .exit i,K,env,m,b=>K (.exit i) env m b
  | .seq x y,K,env,m,b=>vc P b0 x (qO (vc P b0 y K) K) env m b
  | .block i x,K,env,m,b=>vc P b0 x (gP i K) env m b
  | .cond c x y,K,env,m,b=>nE (c.eval env) (vc P b0 x K) (vc P b0 y K) env m b
  | .loop x,K,env,m,b=>LP b0 (vc P b0 x) K env m b
  | .reg ops,K,env,m,b=>kA P ops (K .normal) env m b
  | .regT ops un,K,env,m,b=>jK P un ops (K .normal) [] env m b

def Cu (xs:List AO):List (Nat×Nat) :=
  let ms:=eL xs []
  (BR xs.length).flatMap fun j=>((BR j).filter fun i=>match xs[i]?,xs[j]? with
    | some x,some y=>!((ms.getD j 0).testBit i) && !(fN x.op) && !(fN y.op)
    | _,_=>false).map fun i=>(i,j)
def AO.bare (o:AO):AO:={ o with after:=[] }
theorem mR (P:Program):∀ (xs:List AO) (k:KE),kA P (xs.map AO.bare) k=kA P xs k
  | [],k=>rfl
  | o :: rest,k=>by funext env m b; simp only [BG,kA,mR P rest,AO.bare]
theorem qR (P:Program) (un:List (Nat×Nat)):∀ (xs:List AO) (k:KE) (tr:List Ef),jK P un (xs.map AO.bare) k tr=jK P un xs k tr
  | [],k,tr=>rfl
  | o :: rest,k,tr=>by
    have:jK P un (rest.map AO.bare) k=jK P un rest k:=funext fun tr=>qR P un rest k tr
    funext env m b; simp only [BG,jK,this,AO.bare]
def fD (P:Program) (n:Nat):Code→Option ACode
  | .skip=>some .skip
  | .ret=>some .ret
  | .exit i=>some (.exit i)
  | .seq x y=>match fD P n x,fD P n y with
    | some x',some y'=>some (.seq x' y')
    | _,_=>none
  | .block i x=>(fD P n x).map (.block i)
  | .cond c x y=>match bR c,fD P n x,fD P n y with
    | some c',some x',some y'=>some (.cond c' x' y')
    | _,_,_=>none
  | .loop x=>(fD P n x).map .loop
  | .region _ ops draws=>match rW P ops ops.toList with
    | none=>none
    | some xs=>if draws then
        (if eZ xs (Cu xs) && sF n xs then some (match Cu xs with | []=>.reg (xs.map AO.bare) | u=>.regT (xs.map AO.bare) u) else none)
      else some (.reg (xs.map AO.bare))
  | _=>none

section
variable {P:Program}

def rY (P:Program) (o:AO) (env:List AV) (m:AM) (b:Nat) (e:Ef):Prop :=
  match eG o.guard env with
  | none=>False
  | some false=>e=(.tup [],[],[])
  | some true=>match target env o.op with
    | some (f,as)=>Dc P f as e m.get b
    | none=>∃ r,aop m.get env b o.op=some r∧e=(r.v,r.ups,r.rd)
def RunR (P:Program):List AO→Nat→List AV→AM→List AV×AM×List Ef→Prop
  | [],b,env,m,r=>r=(env,m,[])
  | o :: rest,b,env,m,r=>∃ e r',rY P o env m b e∧RunR P rest (b+16) (gG env o.dst e.1) (m.upd e.2.1) r'∧r=(r'.1,r'.2.1,e :: r'.2.2)

theorem qQ {op:AOp} {κ:Ef→Prop} {env:List AV} {m:AM} {b:Nat} (h:dX P op κ env m b) :
    ∃ e,(match target env op with | some (f,as)=>Dc P f as e m.get b | none=>∃ r,aop m.get env b op=some r∧e=(r.v,r.ups,r.rd))∧κ e:=by
  unfold dX at h
  split at h
  · obtain ⟨e,h1,h2⟩:=h; exact ⟨e,h1,h2⟩
  · rename_i x args
    unfold jQ at h
    split at h
    · rename_i heq
      obtain ⟨e,h1,h2⟩:=h
      refine ⟨e,?_,h2⟩
      simp only [target,heq]
      exact h1
    · exact h.elim
  · rename_i x tb args
    unfold rO at h
    split at h
    · rename_i t v heq
      split at h
      · rename_i g hg
        obtain ⟨e,h1,h2⟩:=h
        refine ⟨e,?_,h2⟩
        simp only [target,heq,hg]
        exact h1
      · exact h.elim
    · exact h.elim
  · rename_i hn1 hn2 hn3
    unfold fP at h
    split at h
    · rename_i r hr
      refine ⟨_,?_,h⟩
      have:target env op=none:=by
        unfold target
        split
        · exact absurd rfl (hn1 _ _)
        · exact absurd rfl (hn2 _ _)
        · exact absurd rfl (hn3 _ _ _)
        · rfl
      rw [this]
      exact ⟨r,hr,rfl⟩
    · exact h.elim

theorem sK {o:AO} {κ:Ef→Prop} {env:List AV} {m:AM} {b:Nat} (h:gK P o.guard o.op κ env m b):∃ e,rY P o env m b e∧κ e:=by
  unfold rY
  cases hg:o.guard with
  | none =>
    rw [hg] at h
    obtain ⟨e,h1,h2⟩:=qQ h
    exact ⟨e,by simpa only [eG] using h1,h2⟩
  | some p =>
    obtain ⟨s,want⟩:=p
    rw [hg] at h
    simp only [gK] at h
    simp only [eG]
    cases hv:env.getD s .und with
    | bool t =>
      rw [hv] at h
      simp only [cU] at h
      simp only
      cases htw:(t == want) with
      | true =>
        rw [htw] at h
        obtain ⟨e,h1,h2⟩:=qQ h
        exact ⟨e,h1,h2⟩
      | false =>
        rw [htw] at h
        exact ⟨_,rfl,h⟩
    | tup l =>
      rw [hv] at h
      cases l with
      | nil=>exact ⟨_,rfl,h⟩
      | cons x l=>exact h.elim
    | _=>rw [hv] at h; exact h.elim

theorem oT {k:KE}:∀ {xs:List AO} {env:List AV} {m:AM} {b:Nat},kA P xs k env m b→∃ r,RunR P xs b env m r∧k r.1 r.2.1 (b+16 * xs.length)
  | [],env,m,b,h=>⟨(env,m,[]),rfl,h⟩
  | o :: rest,env,m,b,h=>by
    obtain ⟨e,h1,h2⟩:=sK h
    obtain ⟨r,h3,h4⟩:=oT h2
    exact ⟨(r.1,r.2.1,e :: r.2.2),⟨e,r,h1,h3,rfl⟩,by rw [AQ,show b+16 * (rest.length+1)=b+16+16 * rest.length from by omega]; exact h4⟩
theorem tF {un:List (Nat×Nat)} {k:KE}:∀ {xs:List AO} {tr:List Ef} {env:List AV} {m:AM} {b:Nat},jK P un xs k tr env m b →
    ∃ r,RunR P xs b env m r∧dynOk un (tr.reverse ++ r.2.2)=true∧k r.1 r.2.1 (b+16 * xs.length)
  | [],tr,env,m,b,h=>⟨(env,m,[]),rfl,by simpa using h.1,h.2⟩
  | o :: rest,tr,env,m,b,h=>by
    obtain ⟨e,h1,h2⟩:=sK h
    obtain ⟨r,h3,h5,h4⟩:=tF h2
    refine ⟨(r.1,r.2.1,e :: r.2.2),⟨e,r,h1,h3,rfl⟩,by simpa using h5,?_⟩
    rw [AQ,show b+16 * (rest.length+1)=b+16+16 * rest.length from by omega]
    exact h4

open Classical in
noncomputable def orc (P:Program) (q:Nat→Option Ef):uT:=fun f args m b=>match q b with
  | some e=>if Dc P f args e m b then some e else none
  | none=>none
theorem uG (q:Nat→Option Ef):lR P (orc P q):=by
  intro f args m b e h
  unfold orc at h
  split at h
  · split at h
    · rename_i h1
      obtain rfl:=Zm h
      exact h1 m fun _ _=>rfl
    · cases h
  · cases h
theorem uF (q:Nat→Option Ef):nY (orc P q):=by
  intro f args m m' b e h hm
  unfold orc at h ⊢
  split at h
  · rename_i e1 hq
    split at h
    · rename_i h1
      obtain rfl:=Zm h
      have:Dc P f args e1 m' b:=fun m2 h2=>h1 m2 fun g hg=>(h2 g hg).trans (hm g hg)
      simp only [this,if_true]
    · cases h
  · cases h
theorem RunR.runD {q:Nat→Option Ef}:∀ {xs:List AO} {b:Nat} {env:List AV} {m:AM} {r:List AV×AM×List Ef},RunR P xs b env m r→(∀ (i:Nat) (e:Ef),r.2.2[i]?=some e→q (b+16 * i)=some e)→runD (orc P q) xs b env m=some r
  | [],b,env,m,r,h,hq=>by rw [show r=_ from h]; rfl
  | o :: rest, b,env,m,r,h,hq=>by
    obtain ⟨e,r',h1,h2,rfl⟩:=h
    have hs : gQ (orc P q) env m.get b o=some e:=by
      unfold rY at h1
      unfold gQ
      split at h1
      · exact h1.elim
      · rename_i hg; subst h1; rw [hg]
      · rename_i hg
        rw [hg]
        simp only
        split at h1
        · rename_i f as ht
          have hq0:q b=some e:=hq 0 e rfl
          have ho:orc P q f as m.get b=some e:=by unfold orc; simp only [hq0,h1,if_true]
          unfold target at ht
          split at ht
          · rename_i hop
            simp only [Zn,Prod.mk.injEq] at ht
            obtain ⟨rfl,rfl⟩:=ht
            rw [hop]; exact ho
          · rename_i hop
            split at ht
            · rename_i heq
              simp only [Zn,Prod.mk.injEq] at ht
              obtain ⟨rfl,rfl⟩:=ht
              rw [hop]; simp only [ex,heq]; exact ho
            · cases ht
          · rename_i hop
            split at ht
            · rename_i heq
              split at ht
              · rename_i hg
                simp only [Zn,Prod.mk.injEq] at ht
                obtain ⟨rfl,rfl⟩:=ht
                rw [hop]; simp only [ex,heq,hg]; exact ho
              · cases ht
            · cases ht
          · cases ht
        · rename_i ht
          obtain ⟨r1,h3,rfl⟩:=h1
          revert ht h3
          generalize o.op=op
          intro ht h3
          unfold ex
          split
          · rename_i hop; simp [target] at ht
          · rename_i x args
            exfalso
            simp [aop] at h3
          · exfalso; simp [aop] at h3
          · rw [h3]; rfl
    have:=RunR.runD h2 (fun i e' hi=>by rw [show b+16+16 * i=b+16 * (i+1) from by omega]; exact hq (i+1) e' (by simpa using hi))
    simp only [Go.Sak.runD,hs,this]
theorem RunR.orc {xs:List AO} {b:Nat} {env:List AV} {m:AM} {r:List AV×AM×List Ef} (h:RunR P xs b env m r):∃ O,lR P O∧nY O∧Sak.runD O xs b env m=some r:=by
  refine ⟨Sak.orc P fun n=>r.2.2[(n - b) / 16]?,uG _,uF _,h.runD fun i e hi=>?_⟩
  rw [show (b+16 * i - b) / 16=i from by omega]
  exact hi

theorem nL {O : uT} (hO : lR P O) {ops:Array Oper} {Q:Exit→Act→World→Prop}:∀ {xs:List AO} {k b:Nat} {env env':List AV} {m m':AM} {tr:List Ef} {a:Act} {c:Ctx},
    (∀ (i:Nat) (x:AO),xs[i]?=some x→∃ o,ops[k+i]?=some o∧Dh P ops o=some x)→runD O xs b env m=some (env',m',tr)→Gd c→c.m=m.get→(∀ n,c.U n→n<b)→ER c env a.tmps →
    (∀ c' a',Gd c'→St c c'→c'.m=m'.get→(∀ n,c'.U n→c.U n∨b≤n∧n<b+16 * xs.length)→ER c' env' a'.tmps→a'.defers=a.defers→Q .normal a' c'.w) →
    wpOps P ops Q (List.range' k xs.length) a c.w
  | [],k,b,env,env',m,m',tr,a,c,hx,hr,hc,hm,hU,he,hK=>by
    simp only [runD,Zn,Prod.mk.injEq] at hr
    obtain ⟨rfl,rfl,rfl⟩:=hr
    exact hK c a hc (St.refl c) hm (fun n hn=>.inl hn) he rfl
  | x :: xs, k, b, env, env',m,m',tr,a,c,hx,hr,hc,hm,hU,he,hK=>by
    simp only [runD] at hr
    split at hr
    · cases hr
    · rename_i e hs
      split at hr
      · cases hr
      · rename_i env1 m1 tr1 hr1
        simp only [Zn,Prod.mk.injEq] at hr
        obtain ⟨rfl,rfl,rfl⟩:=hr
        obtain ⟨o,ho,hxo⟩:=hx 0 x rfl
        rw [AQ,List.range'_succ,wpOps_cons]
        unfold wpOp
        rw [show ops[k]?=some o from ho]
        refine tB (K:=wpOps P ops Q (List.range' (k+1) xs.length)) hO hxo hc hm he (fun n h1 _ hn=>by have:=hU n hn; omega) hs ?_
        intro c2 v k1 k2 k3 k4 k5
        refine nL hO (fun i y hi=>by obtain ⟨o',h1,h2⟩:=hx (i+1) y (by simpa using hi); exact ⟨o',by rw [show k+1+i=k+(i+1) from by omega]; exact h1,h2⟩) hr1 k1 (k3.trans (DL _ _).symm)
          (fun n hn => by rcases k4 n hn with q | q; · omega
                          · have:=hU n q; omega) (pV (he.mono k2) k5) ?_
        intro c3 a3 j1 j2 j3 j4 j5 j6
        refine hK c3 a3 j1 (k2.trans j2) j3 (fun n hn=>?_) j5 (j6.trans (by cases x.dst <;> rfl))
        rw [AQ]
        rcases j4 n hn with q | q
        · rcases k4 n q with q | q
          · exact .inr ⟨q.1,by omega⟩
          · exact .inl q
        · exact .inr ⟨by omega,by omega⟩

def AWP (P:Program) (n b0:Nat) (cd:Code) (K:KX) (env:List AV) (m:AM) (b:Nat):Prop :=
  ∀ (c0 c:Ctx) (a:Act) (Q:Exit→Act→World→Prop),(∀ n,c0.U n→n<b0)→Gd c→St c0 c→c.m=m.get→(∀ n,c.U n→c0.U n∨b0≤n∧n<b)→ER c env a.tmps→a.tmps.size=n→a.defers=[] →
    (∀ e env' m' b' c' a',K e env' m' b'→b0≤b'→Gd c'→St c0 c'→c'.m=m'.get→(∀ n,c'.U n→c0.U n∨b0≤n∧n<b')→ER c' env' a'.tmps→a'.tmps.size=n→a'.defers=[]→Q e.to a' c'.w)→cd.wp P Q a c.w

theorem kP {n b0:Nat} {id:Nat} {ops:Array Oper} {draws:Bool} {un:List (Nat×Nat)} {xs:List AO} (hmix:P.follows .mixedOrders=true) (hx:rW P ops ops.toList=some xs) (hst:draws=true→eZ xs un=true∧sF n xs=true)
    {K:KX} {env:List AV} {m:AM} {b:Nat} {r:List AV×AM×List Ef} (hb:b0≤b) (hr:RunR P xs b env m r) (hdyn:draws=true→dynOk un r.2.2=true) (hk:K .normal r.1 r.2.1 (b+16 * xs.length)):AWP P n b0 (.region id ops draws) K env m b:=by
  intro c0 c a Q h0 hc hs hm hU he hn hd hK
  obtain ⟨O,o1,o2,o3⟩:=hr.orc
  have hU':∀ n,c.U n→n<b:=fun n hn=>by
    rcases hU n hn with q | q
    · have:=h0 n q; omega
    · exact q.2
  have last:∀ c' a',Gd c'→St c c'→c'.m=r.2.1.get→(∀ n,c'.U n→c.U n∨b≤n∧n<b+16 * xs.length)→ER c' r.1 a'.tmps→a'.defers=a.defers→Q .normal a' c'.w:=by
    intro c' a' j1 j2 j3 j4 j5 j6
    refine hK .normal r.1 r.2.1 (b+16 * xs.length) c' a' hk (by omega) j1 (hs.trans j2) j3 (fun n hn=>?_) j5 ?_ (j6.trans hd)
    · rcases j4 n hn with q | q
      · rcases hU n q with q | q
        · exact .inl q
        · exact .inr ⟨q.1,by omega⟩
      · exact .inr ⟨by omega,q.2⟩
    · -- the number of slots stays
      have : ∀ {xs:List AO} {b:Nat} {env:List AV} {m:AM} {r:List AV×AM×List Ef},RunR P xs b env m r→r.1.length=env.length:=by
        intro xs
        induction xs with
        | nil=>intro b env m r h; rw [show r=_ from h]
        | cons o xs ih =>
          intro b env m r h
          obtain ⟨e,r',_,h2,rfl⟩:=h
          rw [ih h2,hD]
      rw [← j5.1,this hr,he.1,hn]
  obtain ⟨env',m',tr⟩:=r
  cases draws with
  | true=>exact vZ hmix o1 o2 hx (hst rfl).1 o3 (hdyn rfl) (by rw [he.1,hn]; exact (hst rfl).2) hc hm hU' he last
  | false =>
    refine wp_region ?_
    obtain ⟨h1,h2⟩:=oV hx
    have hl:ops.size=xs.length:=by rw [← h1]; simp
    rw [List.range_eq_range',hl]
    refine nL o1 (fun i x hi=>?_) o3 hc hm hU' he last
    have hio:i<ops.toList.length:=by rw [h1]; exact (Zw.1 hi).1
    obtain ⟨y,y1,y2⟩:=h2 i _ (Zz hio)
    rw [hi] at y1
    obtain rfl:=Zm y1
    exact ⟨_,by rw [BF]; simp [← Array.getElem?_toList,Zz hio],y2⟩

theorem AWP.mono {n b0:Nat} {cd:Code} {K K':KX} {env:List AV} {m:AM} {b:Nat} (h:AWP P n b0 cd K env m b) (hk:∀ e env m b,b0≤b→K e env m b→K' e env m b):AWP P n b0 cd K' env m b :=
  fun c0 c a Q h0 hc hs hm hU he hn hd hK=>h c0 c a Q h0 hc hs hm hU he hn hd fun e env' m' b' c' a' k hb=>hK e env' m' b' c' a' (hk _ _ _ _ hb k) hb

theorem xN (hmix:P.follows .mixedOrders=true) {n b0:Nat}:∀ {cd:Code} {ac:ACode},fD P n cd=some ac→∀ {K:KX} {env:List AV} {m:AM} {b:Nat},b0≤b→vc P b0 ac K env m b→AWP P n b0 cd K env m b:=by
  intro cd
  induction cd with
  | skip =>
    intro ac h K env m b hb hv c0 c a Q h0 hc hs hm hU he hn hd hK
    obtain rfl:=Zm h
    exact wp_skip (hK .normal env m b c a hv hb hc hs hm hU he hn hd)
  | ret =>
    intro ac h K env m b hb hv c0 c a Q h0 hc hs hm hU he hn hd hK
    obtain rfl:=Zm h
    exact wp_ret (hK .ret env m b c a hv hb hc hs hm hU he hn hd)
  | exit i =>
    intro ac h K env m b hb hv c0 c a Q h0 hc hs hm hU he hn hd hK
    obtain rfl:=Zm h
    exact wp_exit (hK (.exit i) env m b c a hv hb hc hs hm hU he hn hd)
  | seq x y ihx ihy =>
    intro ac h K env m b hb hv c0 c a Q h0 hc hs hm hU he hn hd hK
    simp only [fD] at h
    split at h
    · rename_i x' y' hx hy
      obtain rfl:=Zm h
      refine wp_seq (ihx hx hb hv c0 c a _ h0 hc hs hm hU he hn hd ?_)
      intro e env' m' b' c' a' k hb' j1 j2 j3 j4 j5 j6 j7
      cases e with
      | normal=>exact ihy hy hb' k c0 c' a' Q h0 j1 j2 j3 j4 j5 j6 j7 hK
      | exit i=>exact hK (.exit i) env' m' b' c' a' k hb' j1 j2 j3 j4 j5 j6 j7
      | ret=>exact hK .ret env' m' b' c' a' k hb' j1 j2 j3 j4 j5 j6 j7
    · cases h
  | block i x ih =>
    intro ac h K env m b hb hv c0 c a Q h0 hc hs hm hU he hn hd hK
    simp only [fD,Zl] at h
    obtain ⟨x',hx,rfl⟩:=h
    refine wp_block (ih hx hb hv c0 c a _ h0 hc hs hm hU he hn hd ?_)
    intro e env' m' b' c' a' k hb' j1 j2 j3 j4 j5 j6 j7
    cases e with
    | normal=>exact hK .normal env' m' b' c' a' k hb' j1 j2 j3 j4 j5 j6 j7
    | exit i' =>
      simp only [Ex.to,Exit.inBlock]
      simp only [gP] at k
      split at k
      · rename_i hi; rw [if_pos hi]; exact hK .normal env' m' b' c' a' k hb' j1 j2 j3 j4 j5 j6 j7
      · rename_i hi; rw [if_neg hi]; exact hK (.exit i') env' m' b' c' a' k hb' j1 j2 j3 j4 j5 j6 j7
    | ret=>exact hK .ret env' m' b' c' a' k hb' j1 j2 j3 j4 j5 j6 j7
  | cond q x y ihx ihy =>
    intro ac h K env m b hb hv c0 c a Q h0 hc hs hm hU he hn hd hK
    simp only [fD] at h
    split at h
    · rename_i q' x' y' hq hx hy
      obtain rfl:=Zm h
      simp only [vc] at hv
      have hr:=aK hq he
      unfold nE at hv
      split at hv
      · rename_i t hqt
        rw [hqt] at hr
        generalize hev:a.eval q=v at hr
        cases hr
        refine wp_cond hev ?_
        cases t with
        | true=>exact ihx hx hb hv c0 c a Q h0 hc hs hm hU he hn hd hK
        | false=>exact ihy hy hb hv c0 c a Q h0 hc hs hm hU he hn hd hK
      · exact hv.elim
    · cases h
  | loop x ih =>
    intro ac h K env m b hb hv c0 c a Q h0 hc hs hm hU he hn hd hK
    simp only [fD,Zl] at h
    obtain ⟨x',hx,rfl⟩:=h
    obtain ⟨I,⟨n0,env1,m1,b1,hsub,hb1,hI0⟩,hround⟩:=hv
    obtain ⟨c1,w1,g1,s1,mm1,u1,e1⟩:=hsub c0 c a.tmps h0 hc hs hm hU he
    -- the loop's state: which of them is there
    let J:=fun (k:Nat) (a':Act) (w':World)=>∃ env' m' b' c',c'.w=w'∧b0≤b'∧I k env' m' b'∧Gd c'∧St c0 c'∧c'.m=m'.get∧(∀ n,c'.U n→c0.U n∨b0≤n∧n<b')∧ER c' env' a'.tmps∧a'.tmps.size=n∧a'.defers=[]
    intro fr k cs
    have key : ∀ k0:Nat,∀ (a':Act) (w':World),J k0 a' w'→∃ e a₂ w₂,Q e a₂ w₂∧Arrives P (lone (fr.at a' (.code x :: .inLoop x :: k)) cs w') fr k cs e a₂ w₂:=by
      intro k0
      induction k0 using Nat.strongRecOn with
      | _ k0 ihk =>
        intro a' w' hJ
        obtain ⟨env',m',b',c',rfl,q0,q1,q2,q3,q4,q5,q6,q7,q8⟩:=hJ
        obtain ⟨e,a₁,w₁,hq,harr⟩:=ih hx q0 (hround k0 env' m' b' q0 q1) c0 c' a' (Exit.then (fun a2 w2=>∃ k1,k1<k0∧J k1 a2 w2) Q) h0 q2 q3 q4 q5 q6 q7 q8 (by
          intro e env2 m2 b2 c2 a2 kk hb2 j1 j2 j3 j4 j5 j6 j7
          cases e with
          | normal =>
            obtain ⟨k1,env3,m3,b3,hk1,hsub3,hb3,hI3⟩:=kk
            obtain ⟨c3,w3,g3,s3,mm3,u3,e3⟩:=hsub3 c0 c2 a2.tmps h0 j1 j2 j3 j4 j5
            exact ⟨k1,hk1,env3,m3,b3,c3,w3,hb3,hI3,g3,s3,mm3,u3,e3,j6,j7⟩
          | exit i=>exact hK (.exit i) env2 m2 b2 c2 a2 kk hb2 j1 j2 j3 j4 j5 j6 j7
          | ret=>exact hK .ret env2 m2 b2 c2 a2 kk hb2 j1 j2 j3 j4 j5 j6 j7) fr (.inLoop x :: k) cs
        cases e with
        | normal =>
          obtain ⟨k1,hk1,hJ1⟩:=hq
          obtain ⟨e₂,a₂,w₂,hq₂,harr₂⟩:=ihk k1 hk1 a₁ w₁ hJ1
          exact ⟨e₂,a₂,w₂,hq₂,.of_steps (Steps.trans harr (.one step_inLoop)) harr₂⟩
        | exit id=>exact ⟨_,a₁,w₁,hq,.pass (x:=.inLoop x) rfl (fun _ _=>.inl (by simp)) harr⟩
        | goto l=>exact ⟨_,a₁,w₁,hq,.pass (x:=.inLoop x) rfl (fun _ _=>.inl (by simp)) harr⟩
        | ret=>exact ⟨_,a₁,w₁,hq,.pass (x:=.inLoop x) rfl (fun _ _=>.inl (by simp)) harr⟩
        | panic ch=>exact ⟨_,a₁,w₁,hq,.pass (x:=.inLoop x) rfl (fun _ _=>.inl (by simp)) harr⟩
        | outgrown=>exact ⟨_,a₁,w₁,hq,.pass (x:=.inLoop x) rfl (fun _ _=>.inl (by simp)) harr⟩
    obtain ⟨e,a',w',hq,harr⟩:=key n0 a c.w ⟨env1,m1,b1,c1,w1,hb1,hI0,g1,s1,mm1,u1,e1,hn,hd⟩
    exact ⟨e,a',w',hq,.of_steps (.one step_loop) harr⟩
  | region id ops draws =>
    intro ac h K env m b hb hv
    simp only [fD] at h
    split at h
    · cases h
    · rename_i xs hx
      split at h
      · rename_i hdr
        split at h
        · rename_i hst
          simp only [Zq] at hst
          obtain rfl:=Zm h
          revert hv hst
          cases hun:Cu xs with
          | nil =>
            intro hst hv
            simp only [vc,mR] at hv
            obtain ⟨r,r1,r2⟩:=oT hv
            exact kP (un:=[]) hmix hx (fun _=>hst) hb r1 (fun _=>rfl) r2
          | cons u us =>
            intro hst hv
            simp only [vc,qR] at hv
            obtain ⟨r,r1,r3,r2⟩:=tF hv
            exact kP (un:=u :: us) hmix hx (fun _=>hst) hb r1 (fun _=>by simpa using r3) r2
        · cases h
      · rename_i hdr
        obtain rfl:=Zm h
        simp only [vc,mR] at hv
        obtain ⟨r,r1,r2⟩:=oT hv
        exact kP (un:=[]) hmix hx (fun e=>absurd e hdr) hb r1 (fun e=>absurd e hdr) r2
  | _=>intro ac h; simp [fD] at h
end

structure Tr where
  p:Nat→Nat→Nat→AV
  s:Nat→Nat→AV
  mp:Nat→AV
mutual
def AV.tr (T:Tr):AV→AV
  | .ptr g r o=>T.p g r o
  | .slm g l=>T.s g l
  | .mapm g=>T.mp g
  | .pv cs=>.pv (trs T cs)
  | .slv sz rows=>.slv sz (trss T rows)
  | .fn f a b=>.fn f (trs T a) (trs T b)
  | .iface t x=>.iface t (x.tr T)
  | .agg cs=>.agg (trs T cs)
  | .tup cs=>.tup (trs T cs)
  | .int k n=>.int k n
  | .bool b=>.bool b
  | .str s=>.str s
  | .nilp=>.nilp
  | .slnil=>.slnil
  | .sle sz=>.sle sz
  | .mapnil=>.mapnil
  | .fnnil=>.fnnil
  | .ifnil=>.ifnil
  | .und=>.und
def trs (T:Tr):List AV→List AV
  | []=>[]
  | x :: l=>x.tr T :: trs T l
def trss (T:Tr):List (List AV)→List (List AV)
  | []=>[]
  | x :: l=>trs T x :: trss T l
end
mutual
/-- No names in it. -/
def AV.pure:AV→Bool
  | .ptr _ _ _ | .slm _ _ | .mapm _=>false
  | .pv cs=>pures cs
  | .slv _ rows=>puress rows
  | .fn _ a b=>pures a && pures b
  | .iface _ x=>x.pure
  | .agg cs=>pures cs
  | .tup cs=>pures cs
  | .int _ _ | .bool _ | .str _ | .nilp | .slnil | .sle _ | .mapnil | .fnnil | .ifnil | .und=>true
def pures:List AV→Bool
  | []=>true
  | x :: l=>x.pure && pures l
def puress:List (List AV)→Bool
  | []=>true
  | x :: l=>pures x && puress l
end
mutual
theorem AV.tr_pure (T:Tr):∀ x:AV,x.pure=true→x.tr T=x
  | .ptr _ _ _,h | .slm _ _,h | .mapm _,h=>by simp [AV.pure] at h
  | .pv cs,h=>by simp only [AV.pure] at h; simp only [AV.tr,aY T cs h]
  | .slv _ rows,h=>by simp only [AV.pure] at h; simp only [AV.tr,fY T rows h]
  | .fn _ a b,h=>by simp only [AV.pure,Zq] at h; simp only [AV.tr,aY T a h.1,aY T b h.2]
  | .iface _ x,h=>by simp only [AV.pure] at h; simp only [AV.tr,AV.tr_pure T x h]
  | .agg cs,h=>by simp only [AV.pure] at h; simp only [AV.tr,aY T cs h]
  | .tup cs,h=>by simp only [AV.pure] at h; simp only [AV.tr,aY T cs h]
  | .int _ _,_ | .bool _,_ | .str _,_ | .nilp,_ | .slnil,_ | .sle _,_ | .mapnil,_ | .fnnil,_ | .ifnil,_ | .und,_=>rfl
theorem aY (T:Tr):∀ l:List AV,pures l=true→trs T l=l
  | [],_=>rfl
  | x :: l,h=>by simp only [pures,Zq] at h; simp only [trs,AV.tr_pure T x h.1,aY T l h.2]
theorem fY (T:Tr):∀ l:List (List AV),puress l=true→trss T l=l
  | [],_=>rfl
  | x :: l,h=>by simp only [puress,Zq] at h; simp only [trss,aY T x h.1,fY T l h.2]
end
theorem eH (T:Tr):∀ l:List AV,trs T l=l.map (AV.tr T)
  | []=>rfl
  | x :: l=>by simp [trs,eH T l]
theorem fX (T:Tr):∀ l:List (List AV),trss T l=l.map (trs T)
  | []=>rfl
  | x :: l=>by simp [trss,fX T l]
theorem hX {T:Tr} {l:List AV} {i:Nat} {y:AV} (h:(trs T l)[i]?=some y):∃ x,l[i]?=some x∧y=x.tr T:=by
  rw [eH,CX,Zl] at h
  obtain ⟨x,h1,h2⟩:=h
  exact ⟨x,h1,h2.symm⟩
theorem tC {T:Tr} {l:List (List AV)} {i:Nat} {y:List AV} (h:(trss T l)[i]?=some y):∃ x,l[i]?=some x∧y=trs T x:=by
  rw [fX,CX,Zl] at h
  obtain ⟨x,h1,h2⟩:=h
  exact ⟨x,h1,h2.symm⟩

structure TrOk (T:Tr) (c c':Ctx):Prop where
  p:∀ g r o v,VR c (.ptr g r o) v→VR c' (T.p g r o) v
  s:∀ g l v,VR c (.slm g l) v→VR c' (T.s g l) v
  mp:∀ g v,VR c (.mapm g) v→VR c' (T.mp g) v
  p1:∀ g r o,(T.p g r o).one=true
  s1:∀ g l,(T.s g l).one=true
  mp1:∀ g,(T.mp g).one=true
  nB:∀ b,b<c.w.heap.size→¬ c.B b→¬ c'.B b
  size:c.w.heap.size≤c'.w.heap.size
  cell:∀ (a:Addr),a.block<c.w.heap.size→¬ c.B a.block→∀ n,c'.w.cell? (a.add n)=c.w.cell? (a.add n)

theorem TrOk.one {T:Tr} {c c':Ctx} (h:TrOk T c c') {x:AV} (hx:x.one=true):(x.tr T).one=true:=by
  cases x <;> first | rfl | exact h.p1 _ _ _ | exact h.s1 _ _ | exact h.mp1 _ | exact hx

theorem VR.tr {T:Tr} {c c':Ctx} (h:TrOk T c c') {x:AV} {v:Value} (hx:VR c x v):VR c' (x.tr T) v:=by
  induction hx with
  | int k n hr=>exact .int k n hr
  | bool b=>exact .bool b
  | str s hs=>exact .str s hs
  | nilp=>exact .nilp
  | ptr g row off a hU hL=>exact h.p _ _ _ _ (.ptr g row off a hU hL)
  | pv cells a us hB hb hc h1 hv ih =>
    refine .pv _ a us (h.nB _ hb hB) (AN hb h.size) (fun i y hi=>?_) (fun i y hi=>?_) (fun i y hi=>?_) <;> obtain ⟨x,hx,rfl⟩:=hX hi
    · exact (h.cell a hb hB i).trans (hc i x hx)
    · exact h.one (h1 i x hx)
    · exact ih i x hx
  | slnil=>exact .slnil
  | sle sz a cap hc=>exact .sle sz a cap hc
  | slv0 sz=>exact .slv0 sz
  | slve sz a cap hc=>exact .slve sz a cap hc
  | slvs sz rows a cap us h0 hl hm hB hb hsz hc h1 hv ih =>
    have hlen:(trss T rows).length=rows.length:=by rw [fX]; simp
    simp only [AV.tr]
    rw [← hlen]
    refine .slvs sz _ a cap us (fun e=>h0 (by rw [fX] at e; simpa using e)) (by rw [hlen]; exact hl) hm (h.nB _ hb hB) (AN hb h.size) (fun i r hi=>?_) (fun i r j y hi hj=>?_) (fun i r j y hi hj=>?_) (fun i r j y hi hj=>?_) <;>
      obtain ⟨r0,hr,rfl⟩:=tC hi
    · rw [eH]; simpa using hsz i r0 hr
    all_goals obtain ⟨x,hx,rfl⟩:=hX hj
    · exact (h.cell a hb hB _).trans (hc i r0 j x hr hx)
    · exact h.one (h1 i r0 j x hr hx)
    · exact ih i r0 j x hr hx
  | slm g len a n cap hU hL=>exact h.s _ _ _ (.slm g len a n cap hU hL)
  | mapnil=>exact .mapnil
  | mapm g r hU hL=>exact h.mp _ _ (.mapm g r hU hL)
  | fn f fs cs vs us h1 h2 h3 h4 ih1 ih2 =>
    refine .fn f _ _ vs us (by rw [eH]; simpa using h1) (by rw [eH]; simpa using h2) (fun i y hi=>?_) (fun i y hi=>?_) <;> obtain ⟨x,hx,rfl⟩:=hX hi
    · exact ih1 i x hx
    · exact ih2 i x hx
  | fnnil=>exact .fnnil
  | iface t x v _ ih=>exact .iface t _ v ih
  | ifnil=>exact .ifnil
  | agg cells vs h1 h2 _ ih =>
    refine .agg _ vs (by rw [eH]; simpa using h1) (fun i y hi=>?_) (fun i y hi=>?_) <;> obtain ⟨x,hx,rfl⟩:=hX hi
    · exact h.one (h2 i x hx)
    · exact ih i x hx
  | tup cells vs h1 _ ih =>
    refine .tup _ vs (by rw [eH]; simpa using h1) (fun i y hi=>?_)
    obtain ⟨x,hx,rfl⟩:=hX hi
    exact ih i x hx
  | und v=>exact .und v

theorem ER.tr {T:Tr} {c c':Ctx} (h:TrOk T c c') {env:List AV} {ts:Array Value} (he:ER c env ts):ER c' (trs T env) ts :=
  ⟨by rw [eH]; simpa using he.1,fun i y hi=>by obtain ⟨x,hx,rfl⟩:=hX hi; exact (he.2 i x hx).tr h⟩

def Blk.tr (T:Tr):Blk→Blk
  | .rows t sz rs=>.rows t sz (trss T rs)
  | .mp es=>.mp (es.map fun p=>(p.1.tr T,p.2.tr T))
theorem BlkOk.tr {T:Tr} {c c':Ctx} (h:TrOk T c c') {ni:NI} {o:Obj} {b:Blk} (hb:BlkOk c ni o b):BlkOk c' ni o (b.tr T):=by
  cases b with
  | rows t sz rs =>
    obtain ⟨cs,h1,h2,h3,h4,h5,h7⟩:=hb
    refine ⟨cs,h1,h2,h3,by rw [fX]; simpa using h4,h5,fun i r hi=>?_⟩
    obtain ⟨r0,hr,rfl⟩:=tC hi
    refine ⟨by rw [eH]; simpa using (h7 i r0 hr).1,fun j y hj=>?_⟩
    obtain ⟨x,hx,rfl⟩:=hX hj
    obtain ⟨k1,k2⟩:=(h7 i r0 hr).2 j x hx
    exact ⟨h.one k1,k2.tr h⟩
  | mp es =>
    obtain ⟨en,clk,h1,h2,h3⟩:=hb
    refine ⟨en,clk,h1,⟨by simpa using h2.1,h2.2⟩,fun i k v hi=>?_⟩
    rw [CX,Zl] at hi
    obtain ⟨⟨k0,v0⟩,hi,he⟩:=hi
    simp only [Prod.mk.injEq] at he
    obtain ⟨rfl,rfl⟩:=he
    obtain ⟨e,h4,h5,h6⟩:=h3 i k0 v0 hi
    exact ⟨e,h4,h5.tr h,h6.tr h⟩

theorem mC {c c':Ctx} (hc:Gd c) {g r o:Nat} {t sz:Nat} {rs:List (List AV)} {row:List AV} {v:Value} (hm:c.m g=some (.rows t sz rs)) (hr:rs[r]?=some row) (hw:∀ a:Addr,a.block=(c.ρ g).blk→c'.w.cell? a=c.w.cell? a) (hsz:c.w.heap.size≤c'.w.heap.size)
    (hB:¬ c'.B (c.ρ g).blk) (hv:∀ x,x∈row→∀ u,VR c x u→VR c' x u) (h:VR c (.ptr g r o) v):VR c' (.pv (row.drop o)) v:=by
  have hl:c.L g:=by simp [Ctx.L,hm]
  cases h with
  | ptr _ _ _ a hU hL =>
    have:=hL hl
    subst this
    have hca:=hc.cellsAt hm hr
    obtain ⟨cs,h1,h2,h3,h4,h5,h7⟩:=hc.rows g t sz rs hm
    rw [h2]
    refine .pv _ _ (fun i=>cs.getD (r * sz+(o+i)) bX) hB (AN (hc.lt g hl) hsz) (fun i x hi=>?_) (fun i x hi=>?_) (fun i x hi=>?_) <;> rw [List.getElem?_drop] at hi
    · rw [hw _ (by rw [bU]),cS]
      obtain ⟨h8,h9⟩:=h7 r row hr
      have hlt:o+i<sz:=by rw [← h8]; exact (Zw.1 hi).1
      have hrl:r<rs.length:=(Zw.1 hr).1
      have:r * sz+(o+i)<cs.size:=by
        rw [h3]
        have h10:(r+1) * sz≤(c.ρ g).cap * sz:=AI sz (by omega)
        rw [BJ] at h10
        omega
      rw [show r * sz+o+i=r * sz+(o+i) from by omega]
      simp [World.cell?,h1,Zp,this]
    · exact ((h7 r row hr).2 _ x hi).1
    · exact hv x (AL hi) _ ((h7 r row hr).2 _ x hi).2

theorem mD {c c':Ctx} (hc:Gd c) {g len:Nat} {t sz:Nat} {rs:List (List AV)} {v:Value} (hm:c.m g=some (.rows t sz rs)) (hr:len≤rs.length) (hw:∀ a:Addr,a.block=(c.ρ g).blk→c'.w.cell? a=c.w.cell? a) (hsz:c.w.heap.size≤c'.w.heap.size)
    (hB:¬ c'.B (c.ρ g).blk) (hv:∀ r,r∈rs→∀ x,x∈r→∀ u,VR c x u→VR c' x u) (h:VR c (.slm g len) v):VR c' (.slv sz (rs.take len)) v:=by
  have hl:c.L g:=by simp [Ctx.L,hm]
  cases h with
  | slm _ _ a n cap hU hL =>
    obtain ⟨rfl,rfl,rfl⟩:=hL hl
    obtain ⟨cs,h1,h2,h3,h4,h5,h7⟩:=hc.rows g t sz rs hm
    by_cases h0:n=0
    · subst h0; exact .slve sz _ _ h5
    · have hlen:(rs.take n).length=n:=by simp; omega
      have key:=VR.slvs (c:=c') sz (rs.take n) ⟨(c.ρ g).blk,0,none⟩ (c.ρ g).cap (fun i j=>cs.getD (i * sz+j) bX) (fun e=>h0 (by rw [e] at hlen; simpa using hlen.symm)) (by rw [hlen]; omega) h5 hB (AN (hc.lt g hl) hsz)
        (fun i r hi=>?_) (fun i r j x hi hj=>?_) (fun i r j x hi hj=>?_) (fun i r j x hi hj=>?_)
      · rw [hlen] at key; exact key
      all_goals
        have hil:i<n:=by rw [← hlen]; exact (Zw.1 hi).1
        rw [List.getElem?_take_of_lt hil] at hi
        obtain ⟨h8,h9⟩:=h7 i r hi
      · exact h8
      · rw [hw _ (by rw [bU]),cS]
        have hlt:j<sz:=by rw [← h8]; exact (Zw.1 hj).1
        have hrl:i<rs.length:=(Zw.1 hi).1
        have:i * sz+j<cs.size:=by
          rw [h3]
          have h10:(i+1) * sz≤(c.ρ g).cap * sz:=AI sz (by omega)
          rw [BJ] at h10
          omega
        rw [BF]
        simp [World.cell?,h1,Zp,this]
      · exact (h9 j x hj).1
      · exact hv r (AL hi) x (AL hj) _ (h9 j x hj).2

def lk:List (Nat×Nat)→Nat→Option Nat
  | [],_=>none
  | (g,g') :: l,n=>if n=g then some g' else lk l n
def Lj:List (Nat×Nat)→Nat→Nat
  | [],_=>0
  | (g,g') :: l,n=>if n=g' then g else Lj l n
def nameT (b0 dead:Nat) (σ:List (Nat×Nat)) (n:Nat):Nat:=if n<b0 then n else (lk σ n).getD dead
def frzP (dead:Nat) (m:AM) (g r o:Nat):AV:=match m.get g with
  | some (.rows _ _ rs)=>match rs[r]? with
    | some row=>.pv (row.drop o)
    | none=>.ptr dead r o
  | _=>.ptr dead r o
def frzS (dead:Nat) (m:AM) (g l:Nat):AV:=match m.get g with
  | some (.rows _ sz rs)=>if l≤rs.length then .slv sz (rs.take l) else .slm dead l
  | _=>.slm dead l
def stT (b0 dead:Nat) (Z:List Nat) (σ:List (Nat×Nat)) (m:AM):Tr where
  p g r o:=if Z.contains g then frzP dead m g r o else .ptr (nameT b0 dead σ g) r o
  s g l:=if Z.contains g then frzS dead m g l else .slm (nameT b0 dead σ g) l
  mp g:=.mapm (if Z.contains g then dead else nameT b0 dead σ g)
def stM (b0 dead:Nat) (Z:List Nat) (σ:List (Nat×Nat)) (T:Tr):AM→AM
  | []=>[]
  | (g,b) :: l=>if Z.contains g then stM b0 dead Z σ T l else if g<b0∨(lk σ g).isSome then (nameT b0 dead σ g,b.tr T) :: stM b0 dead Z σ T l else stM b0 dead Z σ T l
def fU:Blk→Bool
  | .rows _ _ rs=>puress rs
  | .mp _=>false
def cC (m:AM) (Z:List Nat):Bool:=Z.all fun g=>match m.get g with
  | some b=>fU b
  | none=>true
def stOk (b0 dead:Nat) (Z:List Nat) (σ:List (Nat×Nat)) (m:AM):Bool :=
  decide (b0≤dead) && (σ.all fun p=>decide (b0≤p.1) && decide (b0≤p.2) && decide (p.2<dead)) && decide (σ.map (·.2)).Nodup && decide (m.map (·.1)).Nodup && (Z.all fun g=>decide (b0≤g))

theorem AM.mem_of_get:∀ {m:AM} {g:Nat} {b:Blk},m.get g=some b→(g,b)∈m
  | (k,b') :: l,g,b,h=>by
    simp only [BY] at h
    split at h
    · rename_i e; subst e; obtain rfl:=Zm h; exact BH ..
    · exact AR _ (AM.mem_of_get h)
theorem AM.get_of_mem:∀ {m:AM} {g:Nat} {b:Blk},(m.map (·.1)).Nodup→(g,b)∈m→m.get g=some b
  | (k,b') :: l,g,b,hn,h=>by
    simp only [BG,DC] at hn
    simp only [BY]
    rcases BN.1 h with h | h
    · simp only [Prod.mk.injEq] at h
      rw [if_pos h.1,h.2]
    · have:g≠k:=fun e=>hn.1 (AG.2 ⟨(g,b),h,e⟩)
      rw [if_neg this]
      exact AM.get_of_mem hn.2 h
theorem gX:∀ {σ:List (Nat×Nat)} {n k:Nat},lk σ n=some k→(n,k)∈σ
  | (g,g') :: l,n,k,h=>by
    simp only [lk] at h
    split at h
    · rename_i e; subst e; obtain rfl:=Zm h; exact BH ..
    · exact AR _ (gX h)
theorem lM:∀ {σ:List (Nat×Nat)} {n k:Nat},(σ.map (·.2)).Nodup→(n,k)∈σ→Lj σ k=n
  | (g,g') :: l,n,k,hn,h=>by
    simp only [BG,DC] at hn
    simp only [Lj]
    rcases BN.1 h with h | h
    · simp only [Prod.mk.injEq] at h
      rw [if_pos h.2,h.1]
    · have:k≠g':=fun e=>hn.1 (AG.2 ⟨(n,k),h,e⟩)
      rw [if_neg this]
      exact lM hn.2 h
theorem lP {b0 dead:Nat} {Z:List Nat} {σ:List (Nat×Nat)} {T:Tr}:∀ {m:AM} {n:Nat} {b:Blk},(n,b)∈stM b0 dead Z σ T m →
    ∃ g b1,(g,b1)∈m∧Z.contains g=false∧(g<b0∨(lk σ g).isSome)∧n=nameT b0 dead σ g∧b=b1.tr T
  | (k, b') :: l,n,b,h=>by
    simp only [stM] at h
    split at h
    · obtain ⟨g,b1,h1,h2⟩:=lP h
      exact ⟨g,b1,AR _ h1,h2⟩
    · rename_i hz
      split at h
      · rename_i hk
        rcases BN.1 h with h | h
        · simp only [Prod.mk.injEq] at h
          exact ⟨k,b',BH ..,by simpa using hz,hk,h.1,h.2⟩
        · obtain ⟨g,b1,h1,h2⟩:=lP h
          exact ⟨g,b1,AR _ h1,h2⟩
      · obtain ⟨g,b1,h1,h2⟩:=lP h
        exact ⟨g,b1,AR _ h1,h2⟩

theorem SubS.refl (b0:Nat) (env:List AV) (m:AM) (b:Nat):SubS b0 env m b env m b:=fun c0 c ts _ hc hs hm hU he=>⟨c,rfl,hc,hs,hm,hU,he⟩
theorem SubS.trans {b0:Nat} {env env' env'':List AV} {m m' m'':AM} {b b' b'':Nat} (h:SubS b0 env m b env' m' b') (k:SubS b0 env' m' b' env'' m'' b''):SubS b0 env m b env'' m'' b'':=fun c0 c ts h0 hc hs hm hU he=>by
  obtain ⟨c1,w1,g1,s1,m1,u1,e1⟩:=h c0 c ts h0 hc hs hm hU he
  obtain ⟨c2,w2,g2,s2,m2,u2,e2⟩:=k c0 c1 ts h0 g1 s1 m1 u1 e1
  exact ⟨c2,w2.trans w1,g2,s2,m2,u2,e2⟩

theorem SubS.step {b0 dead:Nat} {Z:List Nat} {σ:List (Nat×Nat)} {env:List AV} {m:AM} {b:Nat} (hok:stOk b0 dead Z σ m=true) (hz:cC m Z=true) :
    SubS b0 env m b (trs (stT b0 dead Z σ m) env) (stM b0 dead Z σ (stT b0 dead Z σ m) m) (dead+1):=by
  intro c0 c ts h0 hc hs hm hU he
  unfold stOk at hok
  simp only [Zq,decide_eq_true_eq,AA] at hok
  obtain ⟨⟨⟨⟨k1,k2⟩,k3⟩,k4⟩,k5⟩:=hok
  let T:=stT b0 dead Z σ m
  let ρ':=fun n=>if n<b0 then c.ρ n else c.ρ (Lj σ n)
  let c':Ctx:={ F:=c.F,ρ:=ρ',U:=fun n=>c0.U n∨b0≤n∧n<dead+1,m:=(stM b0 dead Z σ T m).get,w:=c.w }
  -- a name that stays
  have hname:∀ g,(g<b0∨(lk σ g).isSome)→ρ' (nameT b0 dead σ g)=c.ρ g∧(nameT b0 dead σ g<b0↔g<b0)∧nameT b0 dead σ g≠dead:=by
    intro g hg
    by_cases hb:g<b0
    · have:nameT b0 dead σ g=g:=by simp [nameT,hb]
      rw [this]
      exact ⟨by simp [ρ',hb],Iff.rfl,by omega⟩
    · obtain ⟨k,hk⟩:=Zx.1 (hg.resolve_left hb)
      have hn:nameT b0 dead σ g=k:=by simp [nameT,hb,hk]
      have:=k2 _ (gX hk)
      simp only [] at this
      rw [hn]
      have hkb:¬ k<b0:=by omega
      exact ⟨by simp only [ρ',if_neg hkb]; rw [lM k3 (gX hk)],by constructor <;> omega,by omega⟩
  have hnameU:∀ g,c.U g→(c0.U (nameT b0 dead σ g)∨b0≤nameT b0 dead σ g∧nameT b0 dead σ g<dead+1):=by
    intro g hg
    by_cases hb:g<b0
    · have:nameT b0 dead σ g=g:=by simp [nameT,hb]
      rw [this]
      rcases hU g hg with q | q
      · exact .inl q
      · omega
    · right
      simp only [nameT,if_neg hb]
      cases hk:lk σ g with
      | none=>simp; omega
      | some k =>
        have:=k2 _ (gX hk)
        simp only [] at this
        simp; omega
  -- who lives
  have hlive:∀ n B,c'.m n=some B→∃ g B1,c.m g=some B1∧Z.contains g=false∧(g<b0∨(lk σ g).isSome)∧n=nameT b0 dead σ g∧B=B1.tr T:=by
    intro n B hn
    obtain ⟨g,B1,h1,h2,h3,h4,h5⟩:=lP (AM.mem_of_get hn)
    exact ⟨g,B1,by rw [hm]; exact AM.get_of_mem k4 h1,h2,h3,h4,h5⟩
  have hliveL:∀ n,c'.L n→∃ g,c.L g∧Z.contains g=false∧(g<b0∨(lk σ g).isSome)∧n=nameT b0 dead σ g∧ρ' n=c.ρ g:=by
    intro n hn
    obtain ⟨B,hB⟩:=Zx.1 hn
    obtain ⟨g,B1,h1,h2,h3,h4,h5⟩:=hlive n B hB
    exact ⟨g,by simp [Ctx.L,h1],h2,h3,h4,by rw [h4]; exact (hname g h3).1⟩
  have hinj:∀ g g',(g<b0∨(lk σ g).isSome)→nameT b0 dead σ g'=nameT b0 dead σ g→g'=g:=by
    intro g g' hg he
    obtain ⟨p1,p2,p3⟩:=hname g hg
    by_cases hb:g<b0
    · have h1:nameT b0 dead σ g=g:=by simp [nameT,hb]
      by_cases hb':g'<b0
      · have h2:nameT b0 dead σ g'=g':=by simp [nameT,hb']
        omega
      · exfalso
        simp only [nameT,if_neg hb'] at he
        cases hk:lk σ g' with
        | none=>rw [hk] at he; simp at he; simp [nameT,hb] at he; omega
        | some k =>
          have:=k2 _ (gX hk)
          rw [hk] at he; simp at he; simp [nameT,hb] at he; simp only [] at this; omega
    · obtain ⟨k,hk⟩:=Zx.1 (hg.resolve_left hb)
      have hn:nameT b0 dead σ g=k:=by simp [nameT,hb,hk]
      have hkk:=k2 _ (gX hk)
      simp only [] at hkk
      by_cases hb':g'<b0
      · have h2:nameT b0 dead σ g'=g':=by simp [nameT,hb']
        omega
      · cases hk':lk σ g' with
        | none =>
          have hn':nameT b0 dead σ g'=dead:=by simp [nameT,hb',hk']
          omega
        | some k' =>
          have hn':nameT b0 dead σ g'=k':=by simp [nameT,hb',hk']
          have e:k'=k:=by omega
          subst e
          rw [← lM k3 (gX hk),← lM k3 (gX hk')]
  have hdeadL:¬ c'.L dead:=by
    intro hl
    obtain ⟨g,_,_,h3,h4,_⟩:=hliveL dead hl
    exact (hname g h3).2.2 h4.symm
  have hdeadU:c'.U dead:=.inr ⟨k1,by omega⟩
  have hown:∀ n,c'.own n→c.own n:=by
    rintro n ⟨g',h1,h2⟩
    obtain ⟨g,h3,_,_,_,h5⟩:=hliveL g' h1
    exact ⟨g,h3,by rw [← h5]; exact h2⟩
  have hnB:∀ n,¬ c.B n→¬ c'.B n:=by
    rintro n hn (h1 | h1)
    · exact hn (.inl h1)
    · exact hn (.inr (hown n h1))
  have hzB:∀ g,Z.contains g=true→c.L g→¬ c'.B (c.ρ g).blk:=by
    rintro g hg hl (h1 | ⟨n,h1,h2⟩)
    · exact hc.notF g hl h1
    · obtain ⟨g2,h3,h4,_,_,h5⟩:=hliveL n h1
      have:(c.ρ g2).blk=(c.ρ g).blk:=by rw [← h5]; exact h2
      have:=hc.inj g2 g h3 hl this
      subst this
      rw [hg] at h4; cases h4
  -- values that have no names
  have hpure:∀ x u,AV.pure x=true→VR c x u→VR c' x u:=by
    intro x u hx hv
    let T0:Tr:=⟨fun _ _ _=>.nilp,fun _ _=>.slnil,fun _=>.mapnil⟩
    have : ∀ x u,VR c x u→AV.pure x=true→VR c' x u:=by
      intro x u hv
      have cell:∀ (l:List AV) (i:Nat) (y:AV),pures l=true→l[i]?=some y→y.pure=true:=by
        intro l
        induction l with
        | nil=>intro i y _ h; simp at h
        | cons z l ih =>
          intro i y h hi
          simp only [pures,Zq] at h
          cases i with
          | zero=>simp at hi; subst hi; exact h.1
          | succ i=>exact ih i y h.2 (by simpa using hi)
      have cells:∀ (l:List (List AV)) (i:Nat) (y:List AV),puress l=true→l[i]?=some y→pures y=true:=by
        intro l
        induction l with
        | nil=>intro i y _ h; simp at h
        | cons z l ih =>
          intro i y h hi
          simp only [puress,Zq] at h
          cases i with
          | zero=>simp at hi; subst hi; exact h.1
          | succ i=>exact ih i y h.2 (by simpa using hi)
      induction hv with
      | int k n hr=>intro _; exact .int k n hr
      | bool b=>intro _; exact .bool b
      | str s hs=>intro _; exact .str s hs
      | nilp=>intro _; exact .nilp
      | ptr g row off a hU hL=>intro h; simp [AV.pure] at h
      | pv cs a us hB hb hcc h1 hv ih=>intro h; simp only [AV.pure] at h; exact .pv cs a us (hnB _ hB) hb hcc h1 (fun i x hi=>ih i x hi (cell _ _ _ h hi))
      | slnil=>intro _; exact .slnil
      | sle sz a cap hc=>intro _; exact .sle sz a cap hc
      | slv0 sz=>intro _; exact .slv0 sz
      | slve sz a cap hc=>intro _; exact .slve sz a cap hc
      | slvs sz rows a cap us h0 hl hm hB hb hsz hcc h1 hv ih=>intro h; simp only [AV.pure] at h; exact .slvs sz rows a cap us h0 hl hm (hnB _ hB) hb hsz hcc h1 (fun i r j x hi hj=>ih i r j x hi hj (cell _ _ _ (cells _ _ _ h hi) hj))
      | slm g len a n cap hU hL=>intro h; simp [AV.pure] at h
      | mapnil=>intro _; exact .mapnil
      | mapm g r hU hL=>intro h; simp [AV.pure] at h
      | fn f fs cs vs us h1 h2 h3 h4 ih1 ih2=>intro h; simp only [AV.pure,Zq] at h; exact .fn f fs cs vs us h1 h2 (fun i x hi=>ih1 i x hi (cell _ _ _ h.1 hi)) (fun i x hi=>ih2 i x hi (cell _ _ _ h.2 hi))
      | fnnil=>intro _; exact .fnnil
      | iface t x v _ ih=>intro h; simp only [AV.pure] at h; exact .iface t x v (ih h)
      | ifnil=>intro _; exact .ifnil
      | agg cs vs h1 h2 _ ih=>intro h; simp only [AV.pure] at h; exact .agg cs vs h1 h2 (fun i x hi=>ih i x hi (cell _ _ _ h hi))
      | tup cs vs h1 _ ih=>intro h; simp only [AV.pure] at h; exact .tup cs vs h1 (fun i x hi=>ih i x hi (cell _ _ _ h hi))
      | und v=>intro _; exact .und v
    exact this x u hv hx
  have hpc:∀ (l:List AV) (y:AV),pures l=true→y∈l→y.pure=true:=by
    intro l
    induction l with
    | nil=>intro y _ h; cases h
    | cons z l ih =>
      intro y h hi
      simp only [pures,Zq] at h
      rcases BN.1 hi with rfl | hi
      · exact h.1
      · exact ih y h.2 hi
  have hpcs:∀ (l:List (List AV)) (y:List AV),puress l=true→y∈l→pures y=true:=by
    intro l
    induction l with
    | nil=>intro y _ h; cases h
    | cons z l ih =>
      intro y h hi
      simp only [puress,Zq] at h
      rcases BN.1 hi with rfl | hi
      · exact h.1
      · exact ih y h.2 hi
  have hzp:∀ g t sz rs,Z.contains g=true→m.get g=some (.rows t sz rs)→puress rs=true:=by
    intro g t sz rs hg hmg
    have:=AA.1 hz g (by simpa using hg)
    rw [hmg] at this
    exact this
  have hT : TrOk T c c':=by
    refine ⟨fun g r o v hv=>?_,fun g l v hv=>?_,fun g v hv=>?_,fun g r o=>?_,fun g l=>?_,fun g=>rfl,fun b _ hb=>hnB b hb,AP _,fun _ _ _ _=>rfl⟩
    · show VR c' (if Z.contains g then frzP dead m g r o else .ptr (nameT b0 dead σ g) r o) v
      split
      · rename_i hg
        unfold frzP
        have dd:VR c' (.ptr dead r o) v:=by
          cases hv with
          | ptr _ _ _ a hU hL=>exact .ptr _ _ _ a hdeadU (fun h=>absurd h hdeadL)
        split
        · rename_i t sz rs hmg
          split
          · rename_i row hrow
            have hmc:c.m g=some (.rows t sz rs):=by rw [hm]; exact hmg
            exact mC hc hmc hrow (fun _ _=>rfl) (AP _) (hzB g hg (by simp [Ctx.L,hmc])) (fun x hx u hu=>hpure x u (hpc _ _ (hpcs _ _ (hzp g t sz rs hg hmg) (AL hrow)) hx) hu) hv
          · exact dd
        · exact dd
      · cases hv with
        | ptr _ _ _ a hU' hL =>
          refine .ptr _ _ _ a (hnameU g hU') fun hl=>?_
          obtain ⟨g2,h1,h2,h3,h4,h5⟩:=hliveL _ hl
          have:=hinj g2 g h3 h4
          subst this
          show a=some ⟨(ρ' _).blk,r * (ρ' _).sz+o,none⟩
          rw [h5]
          exact hL h1
    · show VR c' (if Z.contains g then frzS dead m g l else .slm (nameT b0 dead σ g) l) v
      split
      · rename_i hg
        unfold frzS
        have dd:VR c' (.slm dead l) v:=by
          cases hv with
          | slm _ _ a n cap hU hL=>exact .slm _ _ a n cap hdeadU (fun h=>absurd h hdeadL)
        split
        · rename_i t sz rs hmg
          split
          · rename_i hl
            have hmc:c.m g=some (.rows t sz rs):=by rw [hm]; exact hmg
            exact mD hc hmc hl (fun _ _=>rfl) (AP _) (hzB g hg (by simp [Ctx.L,hmc])) (fun r hr x hx u hu=>hpure x u (hpc _ _ (hpcs _ _ (hzp g t sz rs hg hmg) hr) hx) hu) hv
          · exact dd
        · exact dd
      · cases hv with
        | slm _ _ a n cap hU' hL =>
          refine .slm _ _ a n cap (hnameU g hU') fun hl=>?_
          obtain ⟨g2,h1,h2,h3,h4,h5⟩:=hliveL _ hl
          have:=hinj g2 g h3 h4
          subst this
          show a=some ⟨(ρ' _).blk,0,none⟩∧n=l∧cap=(ρ' _).cap
          rw [h5]
          exact hL h1
    · show VR c' (.mapm (if Z.contains g then dead else nameT b0 dead σ g)) v
      cases hv with
      | mapm _ r hU' hL =>
        split
        · exact .mapm _ r hdeadU (fun h=>absurd h hdeadL)
        · refine .mapm _ r (hnameU g hU') fun hl=>?_
          obtain ⟨g2,h1,h2,h3,h4,h5⟩:=hliveL _ hl
          have:=hinj g2 g h3 h4
          subst this
          show r=some (ρ' _).blk
          rw [h5]
          exact hL h1
    · show AV.one (if Z.contains g then frzP dead m g r o else .ptr (nameT b0 dead σ g) r o)=true
      split
      · unfold frzP
        split
        · split <;> rfl
        · rfl
      · rfl
    · show AV.one (if Z.contains g then frzS dead m g l else .slm (nameT b0 dead σ g) l)=true
      split
      · unfold frzS
        split
        · split <;> rfl
        · rfl
      · rfl
  have hgd:Gd c':=by
    refine Gd.mk' (fun n hn=>?_) (fun n n' hn hn' he=>?_) (fun n hn=>?_) (fun n hn=>?_) (fun n B hB=>?_) hc.flt
    · obtain ⟨g,h1,_,_,_,h5⟩:=hliveL n hn
      show (ρ' n).blk<_
      rw [h5]; exact hc.lt g h1
    · obtain ⟨g,h1,_,_,h4,h5⟩:=hliveL n hn
      obtain ⟨g',h1',_,_,h4',h5'⟩:=hliveL n' hn'
      have he':(ρ' n).blk=(ρ' n').blk:=he
      rw [h5,h5'] at he'
      have:=hc.inj g g' h1 h1' he'
      subst this
      rw [h4,h4']
    · obtain ⟨g,h1,_,_,_,h5⟩:=hliveL n hn
      show ¬ c.F (ρ' n).blk
      rw [h5]; exact hc.notF g h1
    · obtain ⟨g,h1,_,_,h4,_⟩:=hliveL n hn
      rw [h4]; exact hnameU g (hc.used g h1)
    · obtain ⟨g,B1,h1,h2,h3,h4,h5⟩:=hlive n B hB
      obtain ⟨o,o1,o2⟩:=hc.blk h1
      have hr:ρ' n=c.ρ g:=by rw [h4]; exact (hname g h3).1
      refine ⟨o,?_,?_⟩
      · show c.w.heap[(ρ' n).blk]?=some o
        rw [hr]; exact o1
      · show BlkOk c' (ρ' n) o B
        rw [hr,h5]; exact o2.tr hT
  have hst:St c0 c':=by
    refine ⟨hs.os,hs.tape,hs.output,hs.size,hs.keep,hs.F,fun n hn ho=>hs.own n hn (hown n ho),fun n hn=>.inl hn,fun n hn hl=>?_⟩
    obtain ⟨g,h1,h2,h3,h4,h5⟩:=hliveL n hl
    have hnb:=h0 n hn
    have hgb:g<b0:=by rw [h4] at hnb; exact (hname g h3).2.1.1 hnb
    have:n=g:=by rw [h4]; simp [nameT,hgb]
    subst this
    obtain ⟨q1,q2⟩:=hs.names n hn h1
    exact ⟨q1,h5.trans q2⟩
  exact ⟨c',rfl,hgd,hst,rfl,fun n hn=>hn,he.tr hT⟩

mutual
/-- Whole numbers are in the range of their kinds, and so on. -/
def AV.wf:AV→Prop
  | .int k n=>sL k n
  | .str s=>s.size≤maxLen
  | .pv cs=>eP cs
  | .slv _ rows=>rows.length≤maxLen∧Aw rows
  | .fn _ a b=>eP a∧eP b
  | .iface _ x=>x.wf
  | .agg cs=>eP cs
  | .tup cs=>eP cs
  | .bool _ | .nilp | .ptr _ _ _ | .slnil | .sle _ | .slm _ _ | .mapnil | .mapm _ | .fnnil | .ifnil | .und=>True
def eP:List AV→Prop
  | []=>True
  | x :: l=>x.wf∧eP l
def Aw:List (List AV)→Prop
  | []=>True
  | x :: l=>eP x∧Aw l
end
theorem iE:∀ {l:List AV},(∀ (i:Nat) (x:AV),l[i]?=some x→x.wf)→eP l
  | [],_=>trivial
  | x :: l,h=>⟨h 0 x rfl,iE fun i y hi=>h (i+1) y (by simpa using hi)⟩
theorem oU:∀ {l:List (List AV)},(∀ (i:Nat) (r:List AV) (j:Nat) (x:AV),l[i]?=some r→r[j]?=some x→x.wf)→Aw l
  | [],_=>trivial
  | r :: l,h=>⟨iE fun j x hj=>h 0 r j x rfl hj,oU fun i y j x hi hj=>h (i+1) y j x (by simpa using hi) hj⟩
theorem VR.wf {c:Ctx} {x:AV} {v:Value} (h:VR c x v):x.wf:=by
  induction h with
  | int k n hr=>exact hr
  | str s hs=>exact hs
  | pv cells a us hB hb hc h1 hv ih=>exact iE ih
  | slv0 sz=>exact ⟨BS _,trivial⟩
  | slve sz a cap hc=>exact ⟨BS _,trivial⟩
  | slvs sz rows a cap us h0 hl hm hB hb hsz hc h1 hv ih=>exact ⟨EE hl hm,oU fun i r j x hi hj=>ih i r j x hi hj⟩
  | fn f fs cs vs us h1 h2 h3 h4 ih1 ih2=>exact ⟨iE ih1,iE ih2⟩
  | iface t x v _ ih=>exact ih
  | agg cells vs h1 h2 _ ih=>exact iE ih
  | tup cells vs h1 _ ih=>exact iE ih
  | _=>trivial
def Blk.wf:Blk→Prop
  | .rows _ _ rs=>rs.length≤maxLen∧Aw rs
  | .mp es=>∀ k v,(k,v)∈es→k.wf∧v.wf
theorem Gd.wfB {c:Ctx} (hc:Gd c) {g:Nat} {b:Blk} (h:c.m g=some b):b.wf:=by
  obtain ⟨o,h1,h2⟩:=hc.blk h
  cases b with
  | rows t sz rs =>
    obtain ⟨cs,_,_,_,h4,h5,h7⟩:=h2
    exact ⟨EE h4 h5,oU fun i r j x hi hj=>(((h7 i r hi).2 j x hj).2).wf⟩
  | mp es =>
    obtain ⟨en,clk,_,_,h3⟩:=h2
    intro k v hkv
    obtain ⟨i,hi⟩:=List.getElem?_of_mem hkv
    obtain ⟨e,_,h5,h6⟩:=h3 i k v hi
    exact ⟨h5.wf,h6.wf⟩

def cI:List AV→AV
  | [x]=>x
  | l=>.tup l
def xS (P:Program):ResultVar→Option (Nat×Option (Nat×Bool))
  | .tmp t=>some (t,none)
  | .cell a t=>match (P.info? t).map (·.size),P.underlying t with
    | some n,some d=>some (a,some (n,mU d))
    | _,_=>none
def nW (P:Program):List ResultVar→Option (List (Nat×Option (Nat×Bool)))
  | []=>some []
  | r :: l=>match xS P r,nW P l with
    | some x,some xs=>some (x :: xs)
    | _,_=>none
def oQ (env:List AV) (m:Nat→Option Blk):Nat×Option (Nat×Bool)→Option AV
  | (t,none)=>some (env.getD t .und)
  | (a,some (n,agg))=>(aZ m n agg (env.getD a .und)).map (·.v)
def resL (env:List AV) (m:Nat→Option Blk):List (Nat×Option (Nat×Bool))→Option (List AV)
  | []=>some []
  | r :: l=>match oQ env m r,resL env m l with
    | some x,some xs=>some (x :: xs)
    | _,_=>none
def fE:Option (List AV)→(AV→AM→Nat→Prop)→AM→Nat→Prop
  | some l,fin,m,b=>fin (cI l) m b
  | none,_,_,_=>False
def dH (rs:List (Nat×Option (Nat×Bool))) (fin:AV→AM→Nat→Prop):KX
  | .exit _,_,_,_=>False
  | .normal,env,m,b=>fE (resL env m.get rs) fin m b
  | .ret,env,m,b=>fE (resL env m.get rs) fin m b

structure AFn where
  n:Nat
  code:ACode
  res:List (Nat×Option (Nat×Bool))
def Vx (P:Program) (fn:Func):Option AFn :=
  if fn.name == "runtime.NumGoroutine" then none else match fn.body with
  | none=>none
  | some cd=>match fD P fn.ntmps cd,nW P fn.results.toList with
    | some c,some r=>some { n:=fn.ntmps,code:=c,res:=r }
    | _,_=>none
def xf (P:Program) (f:FuncId):Option AFn:=match P.funcs[f]? with
  | some fn=>Vx P fn
  | none=>none

section
variable {P:Program}
def Ap (tmps:Array Value):ResultVar→Sem Value
  | .tmp t=>pure (tmps.getD t undef)
  | .cell a t=>do loadVar t (← asAddr (tmps.getD a undef))
theorem xC {c:Ctx} (hc:Gd c) {env:List AV} {tmps:Array Value} (he:ER c env tmps) {r:ResultVar} {q:Nat×Option (Nat×Bool)} {x:AV} (hx:xS P r=some q) (h:oQ env c.m q=some x) :
    ∃ z,(Ap tmps r).run P c.w=.ok z c.w∧VR c x z:=by
  cases r with
  | tmp t =>
    obtain rfl:=Zm hx
    obtain rfl:=Zm h
    exact ⟨_,rfl,he.get t⟩
  | cell a t =>
    simp only [xS] at hx
    split at hx
    · rename_i n d hn hd
      obtain rfl:=Zm hx
      simp only [oQ,Zl] at h
      obtain ⟨r,h1,rfl⟩:=h
      have hv:=he.get a
      obtain ⟨_,z,h2,h3⟩:=wR (P:=P) (t:=t) hc hd hn hv h1
      refine ⟨z,?_,h3⟩
      rw [← h2]
      show Sem.run P (do loadVar t (← asAddr (tmps.getD a bX))) c.w=_
      unfold Instr.loadAt
      generalize tmps.getD a bX=v at hv h2
      revert h1 hv
      generalize env.getD a .und=y
      intro h1 hv
      cases hv with
      | ptr g row off ad hU hL =>
        cases ad with
        | none=>simp [Instr.loadAt,Instr.sureAddr,stuck] at h2
        | some ad=>rfl
      | pv cells ad us hB hb hc h1' hv=>rfl
      | _=>simp [aZ] at h1
    · cases hx
theorem pX {c:Ctx} (hc:Gd c) {env:List AV} {tmps:Array Value} (he:ER c env tmps):∀ {rs:List ResultVar} {qs:List (Nat×Option (Nat×Bool))} {l:List AV},nW P rs=some qs→resL env c.m qs=some l →
    ∃ zs,(rs.mapM (Ap tmps)).run P c.w=.ok zs c.w∧l.length=zs.length∧∀ (i:Nat) (x:AV),l[i]?=some x→VR c x (zs.getD i bX)
  | [],qs,l,hx,h=>by
    obtain rfl:=Zm hx
    obtain rfl:=Zm h
    exact ⟨[],rfl,rfl,by simp⟩
  | r :: rs,qs,l,hx,h=>by
    simp only [nW] at hx
    split at hx
    · rename_i q qs' h1 h2
      obtain rfl:=Zm hx
      simp only [resL] at h
      split at h
      · rename_i x xs h3 h4
        obtain rfl:=Zm h
        obtain ⟨z,k1,k2⟩:=xC hc he h1 h3
        obtain ⟨zs,k3,k4,k5⟩:=pX hc he h2 h4
        refine ⟨z :: zs,?_,by simp [k4],fun i y hi=>?_⟩
        · rw [List.mapM_cons]
          simp only [Sem.run_bind,k1,Result.andThen_ok,k3,Sem.run_pure]
        · cases i with
          | zero=>simp at hi; subst hi; simpa using k2
          | succ i=>simpa using k5 i y (by simpa using hi)
      · cases h
    · cases hx
theorem pY {c:Ctx} (hc:Gd c) {fn:Func} {env:List AV} {tmps:Array Value} (he:ER c env tmps) {qs:List (Nat×Option (Nat×Bool))} {l:List AV} (hx:nW P fn.results.toList=some qs) (h:resL env c.m qs=some l) :
    ∃ z,(results fn tmps).run P c.w=.ok z c.w∧VR c (cI l) z:=by
  obtain ⟨zs,h1,h2,h3⟩:=pX hc he hx h
  have hm:(fn.results.mapM (Ap tmps)).run P c.w=.ok zs.toArray c.w:=by
    rw [Array.mapM_eq_mapM_toList]
    simp only [Sem.run_map,h1,Result.andThen_ok]
  have hres:results fn tmps=(do
      let vs ← fn.results.mapM (Ap tmps)
      pure (if h:vs.size=1 then vs[0] else .tuple vs)):=by
    unfold results
    congr 1
  rw [hres]
  simp only [Sem.run_bind,hm,Result.andThen_ok,Sem.run_pure]
  refine ⟨_,rfl,?_⟩
  cases zs with
  | nil =>
    cases l with
    | nil=>exact .tup [] #[] rfl (by simp)
    | cons x l=>simp at h2
  | cons z zs =>
    cases l with
    | nil=>simp at h2
    | cons x l =>
      cases zs with
      | nil =>
        cases l with
        | nil=>simpa [cI] using h3 0 x rfl
        | cons y l=>simp at h2
      | cons z' zs =>
        cases l with
        | nil=>simp at h2
        | cons y l =>
          have:¬ (z :: z' :: zs).toArray.size=1:=by simp
          rw [dif_neg this]
          exact .tup _ _ (by simpa using h2) (fun i w hi=>by simpa [Zp,Zr] using h3 i w hi)

def yP (P:Program) (f:FuncId) (args:List AV) (e:Ef) (m:Nat→Option Blk) (b:Nat):Prop :=
  eU P f∧∀ c:Ctx,Gd c→c.m=m→(∀ n,c.U n→n<b)→∀ vs,ARel c args vs →
    Calls P f vs c.w fun en w'=>∃ c' z,en=.returned z∧c'.w=w'∧Gd c'∧St c c'∧c'.m=ups m e.2.1∧(∀ n,c'.U n→(b≤n∧n<b+16)∨c.U n)∧VR c' e.1 z

def gB (b0:Nat) (m0:AM) (e:Ef) (v:AV) (m:AM) (b:Nat):Prop :=
  ∃ v' m' b',SubS b0 [v] m b [v'] m' b'∧b'≤b0+16∧m'.get=(m0.upd e.2.1).get∧v'=e.1

theorem oZ {f:FuncId} {A:AFn} (h:xf P f=some A):eU P f∧∃ fn cd,P.funcs[f]?=some fn∧fn.body=some cd∧fn.ntmps=A.n∧fD P A.n cd=some A.code∧nW P fn.results.toList=some A.res:=by
  unfold xf at h
  split at h
  · rename_i fn hfn
    unfold Vx at h
    split at h
    · cases h
    · rename_i hname
      split at h
      · cases h
      · rename_i cd hcd
        split at h
        · rename_i c r h1 h2
          obtain rfl:=Zm h
          exact ⟨⟨fn,hfn,by simpa using hname,by rw [hcd]; rfl⟩,fn,cd,hfn,hcd,rfl,h1,h2⟩
        · cases h
  · cases h

theorem aG (hmix:P.follows .mixedOrders=true) {f:FuncId} {A:AFn} (hA:xf P f=some A) {args:List AV} {m0:AM} {b0:Nat} {e:Ef} (hl:args.length≤A.n)
    (h:eP args→(∀ g B,m0.get g=some B→B.wf)→vc P b0 A.code (dH A.res (gB b0 m0 e)) (args ++ BZ (A.n - args.length) .und) m0 b0):yP P f args e m0.get b0:=by
  obtain ⟨hcal,fn,cd,h1,h2,h3,h4,h5⟩:=oZ hA
  refine ⟨hcal,fun c hc hm hU vs hvs=>?_⟩
  have hv:=h (iE fun i x hi=>(hvs.2 i x hi).wf) (fun g B hg=>hc.wfB (by rw [hm]; exact hg))
  refine calls_of_wp h1 h2 ?_
  have hsz:vs.size=args.length:=hvs.1.symm
  refine xN hmix h4 (AP b0) hv c c { tmps:=vs ++ Array.replicate (fn.ntmps - vs.size) undef,defers:=[] } _ hU hc (St.refl c) hm (fun n hn=>.inl hn) ?_ ?_ rfl ?_
  · refine ⟨by simp [h3,hsz],fun i x hi=>?_⟩
    by_cases hil:i<args.length
    · rw [List.getElem?_append_left hil] at hi
      have:=hvs.2 i x hi
      have hiv:i<vs.size:=by omega
      simpa [Zp,Array.getElem?_append,hiv] using this
    · rw [List.getElem?_append_right (by omega)] at hi
      have:=AL hi
      rw [List.mem_replicate] at this
      rw [this.2]
      exact .und _
  · simp [h3,hsz]; omega
  · intro ex env' m' b' c' a' k hb j1 j2 j3 j4 j5 j6 j7
    have fin:fE (resL env' m'.get A.res) (gB b0 m0 e) m' b'→a'.defers=[]∧∃ v,(results fn a'.tmps).run P c'.w=.ok v c'.w∧∃ c'' z,Ending.returned v=.returned z∧c''.w=c'.w∧Gd c''∧St c c''∧c''.m=ups m0.get e.2.1∧(∀ n,c''.U n→(b0≤n∧n<b0+16)∨c.U n)∧VR c'' e.1 z:=by
      intro k
      refine ⟨j7,?_⟩
      cases hl:resL env' m'.get A.res with
      | none=>rw [hl] at k; exact k.elim
      | some l =>
        rw [hl] at k
        obtain ⟨z,hz1,hz2⟩:=pY (fn:=fn) j1 j5 h5 (by rw [j3]; exact hl)
        obtain ⟨v',m2,b2,q1,q2,q3,q4⟩:=k
        obtain ⟨c2,w2,g2,s2,mm2,u2,e2⟩:=q1 c c' #[z] hU j1 j2 j3 j4 ⟨rfl,fun i x hi=>by
          cases i with
          | zero=>simp at hi; subst hi; exact hz2
          | succ i=>simp at hi⟩
        refine ⟨z,hz1,c2,z,rfl,w2,g2,s2,mm2.trans (q3.trans (DL _ _)),fun n hn=>?_,?_⟩
        · rcases u2 n hn with q | q
          · exact .inr q
          · exact .inl ⟨q.1,by omega⟩
        · have:=e2.2 0 v' rfl
          rw [← q4]
          exact this
    cases ex with
    | normal=>exact fin k
    | exit i=>exact k.elim
    | ret=>exact fin k
end

def vwP (m:Nat→Option Blk) (d g r o:Nat):AV:=match m g with
  | some (.rows _ _ rs)=>match rs[r]? with
    | some row=>.pv (row.drop o)
    | none=>.ptr d r o
  | _=>.ptr d r o
def vwS (m:Nat→Option Blk) (d g l:Nat):AV:=match m g with
  | some (.rows _ sz rs)=>if l≤rs.length then .slv sz (rs.take l) else .slm d l
  | _=>.slm d l
def kB (m:Nat→Option Blk) (K:List Nat) (B0:Nat) (Z:List Nat):Tr where
  p g r o:=if Z.contains g then vwP m (B0 - 1) g r o else .ptr (if K.contains g then g else B0 - 1) r o
  s g l:=if Z.contains g then vwS m (B0 - 1) g l else .slm (if K.contains g then g else B0 - 1) l
  mp g:=.mapm (if Z.contains g then B0 - 1 else if K.contains g then g else B0 - 1)
def eD (B0 b n:Nat):Nat:=if n<B0 then (if n=B0 - 1 then b+15 else n) else if n<B0+15 then b+(n - B0) else b+15
def mP (B0 b:Nat):Tr where
  p g r o:=.ptr (eD B0 b g) r o
  s g l:=.slm (eD B0 b g) l
  mp g:=.mapm (eD B0 b g)
def oS (B0 b:Nat) (p:Nat×Option Blk):Nat×Option Blk:=(eD B0 b p.1,p.2.map (·.tr (mP B0 b)))

theorem wU {φ:Nat→Nat} {ψ:Option Blk→Option Blk} {u:List (Nat×Option Blk)} {k:Nat} (hinj:∀ p,p∈u→φ p.1=φ k→p.1=k):dO (u.map fun p=>(φ p.1,ψ p.2)) (φ k)=(dO u k).map ψ:=by
  unfold dO
  have gen:∀ (u:List (Nat×Option Blk)) (acc:Option (Option Blk)),(∀ p,p∈u→φ p.1=φ k→p.1=k) →
      (u.map fun p=>(φ p.1,ψ p.2)).foldl (fun acc p=>if p.1=φ k then some p.2 else acc) (acc.map ψ)=(u.foldl (fun acc p=>if p.1=k then some p.2 else acc) acc).map ψ:=by
    intro u
    induction u with
    | nil=>intro acc _; rfl
    | cons p u ih =>
      intro acc h
      simp only [BG,BM]
      rw [← ih _ (fun q hq=>h q (AR _ hq))]
      by_cases hp:p.1=k
      · simp [hp]
      · have:¬ φ p.1=φ k:=fun e=>hp (h p (BH ..) e)
        simp [hp,this]
  exact gen u none hinj

mutual
/-- No frozen cells in it. -/
def AV.flat:AV→Bool
  | .pv _=>false
  | .slv _ rows=>rows.isEmpty
  | .fn _ a b=>flats a && flats b
  | .iface _ x=>x.flat
  | .agg cs=>flats cs
  | .tup cs=>flats cs
  | .ptr _ _ _ | .slm _ _ | .mapm _ | .int _ _ | .bool _ | .str _ | .nilp | .slnil | .sle _ | .mapnil | .fnnil | .ifnil | .und=>true
def flats:List AV→Bool
  | []=>true
  | x :: l=>x.flat && flats l
end
def Blk.flat:Blk→Bool
  | .rows _ _ rs=>rs.all flats
  | .mp es=>es.all fun p=>p.1.flat && p.2.flat
theorem eR:∀ {l:List AV} {y:AV},flats l=true→y∈l→y.flat=true
  | z :: l,y,h,hi=>by
    simp only [flats,Zq] at h
    rcases BN.1 hi with rfl | hi
    · exact h.1
    · exact eR h.2 hi
theorem VR.moreF {c c':Ctx} (hρ:c'.ρ=c.ρ) (hU:c'.U=c.U) (hm:c'.m=c.m) {x:AV} {v:Value} (h:VR c x v):x.flat=true→VR c' x v:=by
  have hL:∀ g,c'.L g→c.L g:=fun g hl=>by unfold Ctx.L at hl ⊢; rwa [hm] at hl
  induction h with
  | int k n hr=>intro _; exact .int k n hr
  | bool b=>intro _; exact .bool b
  | str s hs=>intro _; exact .str s hs
  | nilp=>intro _; exact .nilp
  | ptr g row off a q1 q2=>intro _; exact .ptr g row off a (by rw [hU]; exact q1) (fun hl=>by rw [hρ]; exact q2 (hL g hl))
  | pv cs a us hB hb hcc h1 hv ih=>intro h; simp [AV.flat] at h
  | slnil=>intro _; exact .slnil
  | sle sz a cap hc=>intro _; exact .sle sz a cap hc
  | slv0 sz=>intro _; exact .slv0 sz
  | slve sz a cap hc=>intro _; exact .slve sz a cap hc
  | slvs sz rows a cap us h0 hl hm hB hb hsz hcc h1 hv ih=>intro h; simp [AV.flat] at h; exact absurd h h0
  | slm g len a n cap q1 q2=>intro _; exact .slm g len a n cap (by rw [hU]; exact q1) (fun hl=>by rw [hρ]; exact q2 (hL g hl))
  | mapnil=>intro _; exact .mapnil
  | mapm g r q1 q2=>intro _; exact .mapm g r (by rw [hU]; exact q1) (fun hl=>by rw [hρ]; exact q2 (hL g hl))
  | fn f fs cs vs us h1 h2 h3 h4 ih1 ih2=>intro h; simp only [AV.flat,Zq] at h; exact .fn f fs cs vs us h1 h2 (fun i x hi=>ih1 i x hi (eR h.1 (AL hi))) (fun i x hi=>ih2 i x hi (eR h.2 (AL hi)))
  | fnnil=>intro _; exact .fnnil
  | iface t x v _ ih=>intro h; simp only [AV.flat] at h; exact .iface t x v (ih h)
  | ifnil=>intro _; exact .ifnil
  | agg cs vs h1 h2 _ ih=>intro h; simp only [AV.flat] at h; exact .agg cs vs h1 h2 (fun i x hi=>ih i x hi (eR h (AL hi)))
  | tup cs vs h1 _ ih=>intro h; simp only [AV.flat] at h; exact .tup cs vs h1 (fun i x hi=>ih i x hi (eR h (AL hi)))
  | und v=>intro _; exact .und v
theorem BlkOk.moreF {c c':Ctx} (hρ:c'.ρ=c.ρ) (hU:c'.U=c.U) (hm:c'.m=c.m) {ni:NI} {o:Obj} {b:Blk} (hb:BlkOk c ni o b) (hf:b.flat=true):BlkOk c' ni o b:=by
  cases b with
  | rows t sz rs =>
    obtain ⟨cs,h1,h2,h3,h4,h5,h7⟩:=hb
    exact ⟨cs,h1,h2,h3,h4,h5,fun i r hi=>⟨(h7 i r hi).1,fun j x hj=>⟨((h7 i r hi).2 j x hj).1,((h7 i r hi).2 j x hj).2.moreF hρ hU hm (eR (AA.1 hf r (AL hi)) (AL hj))⟩⟩⟩
  | mp es =>
    obtain ⟨en,clk,h1,h2,h3⟩:=hb
    refine ⟨en,clk,h1,h2,fun i k v hi=>?_⟩
    obtain ⟨e,h4,h5,h6⟩:=h3 i k v hi
    have:=AA.1 hf (k,v) (AL hi)
    simp only [Zq] at this
    exact ⟨e,h4,h5.moreF hρ hU hm this.1,h6.moreF hρ hU hm this.2⟩
theorem fC:∀ (u u':List (Nat×Option Blk)) (m:Nat→Option Blk),ups m (u ++ u')=ups (ups m u) u'
  | [],_,_=>rfl
  | (g,b) :: u,u',m=>fC u u' (put m g b)
theorem jZ (m:Nat→Option Blk) (Z:List Nat) (n:Nat):ups m (Z.map fun g=>(g,none)) n=if n∈Z then none else m n:=by
  rw [fZ]
  by_cases h:n∈Z
  · rw [if_pos h]
    have : dO (Z.map fun g=>(g,(none:Option Blk))) n=some none:=by
      unfold dO
      have gen:∀ (l:List Nat) (acc:Option (Option Blk)),(acc=none∨acc=some none)→(l.map fun g=>(g,(none:Option Blk))).foldl (fun acc p=>if p.1=n then some p.2 else acc) acc=some none ∨
          (n∉l∧(l.map fun g=>(g,(none:Option Blk))).foldl (fun acc p=>if p.1=n then some p.2 else acc) acc=acc):=by
        intro l
        induction l with
        | nil=>intro acc _; exact .inr ⟨by simp,rfl⟩
        | cons k l ih =>
          intro acc hacc
          simp only [BG,BM]
          by_cases hk:k=n
          · simp only [hk,if_true]
            rcases ih (some none) (.inr rfl) with q | ⟨_,q⟩
            · exact .inl q
            · exact .inl q
          · simp only [hk,if_false]
            rcases ih acc hacc with q | ⟨q1,q2⟩
            · exact .inl q
            · exact .inr ⟨by simp [Ne.symm hk,q1],q2⟩
      rcases gen Z none (.inl rfl) with q | ⟨q,_⟩
      · exact q
      · exact absurd h q
    rw [this]; rfl
  · rw [if_neg h,iM (fun p hp=>by
      obtain ⟨g,hg,rfl⟩:=AG.1 hp
      exact fun e=>h (e ▸ hg))]
    rfl

section
variable {P:Program}

def eW (kz:Bool) (Z:List Nat):List (Nat×Option Blk):=if kz then Z.map fun g=>(g,none) else []
theorem Ag {kz : Bool} {f : FuncId} {args args' : List AV} {e : Ef} {m0:AM} {B0:Nat} {m:Nat→Option Blk} {b:Nat} {Z:List Nat} (h:yP P f args e m0.get B0) (h1:1≤B0) (hb:B0≤b)
    (h0:∀ n B,m0.get n=some B→n<B0 - 1∧m n=some B) (hKs:∀ n,n∈m0.map (·.1)↔(m0.get n).isSome=true)
    (hcl:∀ T:Tr,(∀ g,(m0.get g).isSome=true→(∀ r o,T.p g r o=.ptr g r o)∧(∀ l,T.s g l=.slm g l)∧T.mp g=.mapm g)→∀ n B,m0.get n=some B→B.tr T=B)
    (hZ:∀ g,g∈Z→m0.get g=none∧∀ t sz rs,m g=some (.rows t sz rs)→puress rs=true) (hargs:trs (kB m (m0.map (·.1)) B0 Z) args'=args)
    (hups:∀ p,p∈e.2.1→p.1<B0+15∧(p.1<B0→(m0.get p.1).isSome=true)) (hfl:kz=true∨Z=[]∨m0=[]∧e.1.flat=true∧∀ p,p∈e.2.1→∀ B,p.2=some B→B.flat=true)
    (rd:List Nat):MC P f args' (e.1.tr (mP B0 b),eW kz Z ++ e.2.1.map (oS B0 b),rd) m b:=by
  obtain ⟨hcal,hb1⟩:=h
  refine ⟨hcal,fun c hc hm hU vs hvs=>?_⟩
  subst hm
  let T1:=kB c.m (m0.map (·.1)) B0 Z
  let c0:Ctx:={ F:=fun n=>c.F n∨∃ g,c.L g∧m0.get g=none∧g∉Z∧(c.ρ g).blk=n,ρ:=c.ρ,U:=fun n=>n<B0∧((m0.get n).isSome=true∨n=B0 - 1),m:=m0.get,w:=c.w }
  have hL0:∀ n,c0.L n→c.L n∧n<B0 - 1:=by
    intro n hn
    obtain ⟨B,hB⟩:=Zx.1 hn
    obtain ⟨q1,q2⟩:=h0 n B hB
    exact ⟨by simp [Ctx.L,q2],q1⟩
  have hown0:∀ n,c0.own n→c.own n:=fun n ⟨g,g1,g2⟩=>⟨g,(hL0 g g1).1,g2⟩
  have hnB0 : ∀ n, ¬ c.B n → ¬ c0.B n := fun n hn hh => hn (by rcases hh with (q | ⟨g,q1,_,_,q2⟩) | q; · exact .inl q
                                                               · exact .inr ⟨g,q1,q2⟩
                                                               · exact .inr (hown0 n q))
  have hdead:¬ c0.L (B0 - 1):=fun hl=>by have:=(hL0 _ hl).2; omega
  have hdU:c0.U (B0 - 1):=⟨by omega,.inr rfl⟩
  have hnone:∀ g,c.L g→m0.get g=none→¬ c0.own (c.ρ g).blk:=by
    rintro g hl hg ⟨n,n1,n2⟩
    have:=hc.inj n g (hL0 n n1).1 hl n2
    subst this
    simp [Ctx.L,c0,hg] at n1
  have hzB:∀ g,g∈Z→c.L g→¬ c0.B (c.ρ g).blk:=by
    rintro g hg hl ((q | ⟨g',q1,_,q3,q4⟩) | q)
    · exact hc.notF g hl q
    · exact q3 (hc.inj g' g q1 hl q4 ▸ hg)
    · exact hnone g hl (hZ g hg).1 q
  have hKg:∀ g,(m0.map (·.1)).contains g=true↔(m0.get g).isSome=true:=fun g=>by rw [AH]; exact hKs g
  have hzg:∀ g,Z.contains g=true↔g∈Z:=fun g=>AH
  -- values without names
  have hpure:∀ x u,AV.pure x=true→VR c x u→VR c0 x u:=by
    intro x u hx hv
    have hsame:VR { c with m:=fun _=>none,U:=fun _=>True } x u:=by
      have : TrOk ⟨.ptr,.slm,.mapm⟩ c { c with m:=fun _=>none,U:=fun _=>True }:=by
        refine ⟨fun g r o v hv=>?_,fun g l v hv=>?_,fun g v hv=>?_,fun _ _ _=>rfl,fun _ _=>rfl,fun _=>rfl,fun n _ hn hh=>?_,AP _,fun _ _ _ _=>rfl⟩
        · cases hv with | ptr _ _ _ a q1 q2=>exact .ptr _ _ _ a trivial (fun hl=>by simp [Ctx.L] at hl)
        · cases hv with | slm _ _ a n k q1 q2=>exact .slm _ _ a n k trivial (fun hl=>by simp [Ctx.L] at hl)
        · cases hv with | mapm _ r q1 q2=>exact .mapm _ r trivial (fun hl=>by simp [Ctx.L] at hl)
        · rcases hh with q | ⟨g,q1,_⟩
          · exact hn (.inl q)
          · simp [Ctx.L] at q1
      have hh:=hv.tr this
      rwa [AV.tr_pure _ _ hx] at hh
    have:TrOk ⟨fun _ r o=>.ptr (B0 - 1) r o,fun _ l=>.slm (B0 - 1) l,fun _=>.mapm (B0 - 1)⟩ c c0:=by
      refine ⟨fun g r o v hv=>?_,fun g l v hv=>?_,fun g v hv=>?_,fun _ _ _=>rfl,fun _ _=>rfl,fun _=>rfl,fun n _ hn=>hnB0 n hn,AP _,fun _ _ _ _=>rfl⟩
      · cases hv with | ptr _ _ _ a q1 q2=>exact .ptr _ _ _ a hdU (fun hl=>absurd hl hdead)
      · cases hv with | slm _ _ a n k q1 q2=>exact .slm _ _ a n k hdU (fun hl=>absurd hl hdead)
      · cases hv with | mapm _ r q1 q2=>exact .mapm _ r hdU (fun hl=>absurd hl hdead)
    have hh:=hv.tr this
    rwa [AV.tr_pure _ _ hx] at hh
  have hpc:∀ (l:List AV) (y:AV),pures l=true→y∈l→y.pure=true:=by
    intro l
    induction l with
    | nil=>intro y _ h; cases h
    | cons z l ih =>
      intro y h hi
      simp only [pures,Zq] at h
      rcases BN.1 hi with rfl | hi
      · exact h.1
      · exact ih y h.2 hi
  have hpcs:∀ (l:List (List AV)) (y:List AV),puress l=true→y∈l→pures y=true:=by
    intro l
    induction l with
    | nil=>intro y _ h; cases h
    | cons z l ih =>
      intro y h hi
      simp only [puress,Zq] at h
      rcases BN.1 hi with rfl | hi
      · exact h.1
      · exact ih y h.2 hi
  have hT1 : TrOk T1 c c0:=by
    refine ⟨fun g r o v hv=>?_,fun g l v hv=>?_,fun g v hv=>?_,fun g r o=>?_,fun g l=>?_,fun g=>rfl,fun n _ hn=>hnB0 n hn,AP _,fun _ _ _ _=>rfl⟩
    · show VR c0 (if Z.contains g then vwP c.m (B0 - 1) g r o else .ptr (if (m0.map (·.1)).contains g then g else B0 - 1) r o) v
      have dd:VR c0 (.ptr (B0 - 1) r o) v:=by
        cases hv with | ptr _ _ _ a q1 q2=>exact .ptr _ _ _ a hdU (fun hl=>absurd hl hdead)
      split
      · rename_i hg
        rw [hzg] at hg
        unfold vwP
        split
        · rename_i t sz rs hmg
          split
          · rename_i row hrow
            exact mC hc hmg hrow (fun _ _=>rfl) (AP _) (hzB g hg (by simp [Ctx.L,hmg])) (fun x hx u hu=>hpure x u (hpc _ _ (hpcs _ _ ((hZ g hg).2 t sz rs hmg) (AL hrow)) hx) hu) hv
          · exact dd
        · exact dd
      · split
        · rename_i hk
          cases hv with
          | ptr _ _ _ a q1 q2 =>
            have hs:=(hKg g).1 hk
            obtain ⟨B,hB⟩:=Zx.1 hs
            exact .ptr _ _ _ a ⟨by have:=(h0 g B hB).1; omega,.inl hs⟩ (fun hl=>q2 (hL0 g hl).1)
        · exact dd
    · show VR c0 (if Z.contains g then vwS c.m (B0 - 1) g l else .slm (if (m0.map (·.1)).contains g then g else B0 - 1) l) v
      have dd:VR c0 (.slm (B0 - 1) l) v:=by
        cases hv with | slm _ _ a n k q1 q2=>exact .slm _ _ a n k hdU (fun hl=>absurd hl hdead)
      split
      · rename_i hg
        rw [hzg] at hg
        unfold vwS
        split
        · rename_i t sz rs hmg
          split
          · rename_i hl
            exact mD hc hmg hl (fun _ _=>rfl) (AP _) (hzB g hg (by simp [Ctx.L,hmg])) (fun r hr x hx u hu=>hpure x u (hpc _ _ (hpcs _ _ ((hZ g hg).2 t sz rs hmg) hr) hx) hu) hv
          · exact dd
        · exact dd
      · split
        · rename_i hk
          cases hv with
          | slm _ _ a n k q1 q2 =>
            have hs:=(hKg g).1 hk
            obtain ⟨B,hB⟩:=Zx.1 hs
            exact .slm _ _ a n k ⟨by have:=(h0 g B hB).1; omega,.inl hs⟩ (fun hl=>q2 (hL0 g hl).1)
        · exact dd
    · show VR c0 (.mapm (if Z.contains g then B0 - 1 else if (m0.map (·.1)).contains g then g else B0 - 1)) v
      have dd:VR c0 (.mapm (B0 - 1)) v:=by
        cases hv with | mapm _ r q1 q2=>exact .mapm _ r hdU (fun hl=>absurd hl hdead)
      split
      · exact dd
      · split
        · rename_i hk
          cases hv with
          | mapm _ r q1 q2 =>
            have hs:=(hKg g).1 hk
            obtain ⟨B,hB⟩:=Zx.1 hs
            exact .mapm _ r ⟨by have:=(h0 g B hB).1; omega,.inl hs⟩ (fun hl=>q2 (hL0 g hl).1)
        · exact dd
    · show AV.one (if Z.contains g then vwP c.m (B0 - 1) g r o else .ptr (if (m0.map (·.1)).contains g then g else B0 - 1) r o)=true
      split
      · unfold vwP
        split
        · split <;> rfl
        · rfl
      · rfl
    · show AV.one (if Z.contains g then vwS c.m (B0 - 1) g l else .slm (if (m0.map (·.1)).contains g then g else B0 - 1) l)=true
      split
      · unfold vwS
        split
        · split <;> rfl
        · rfl
      · rfl
  have hid1:∀ n B,m0.get n=some B→B.tr T1=B:=by
    refine hcl T1 fun g hg=>?_
    have hz:Z.contains g=false:=by
      cases hh:Z.contains g with
      | false=>rfl
      | true=>have:=(hZ g ((hzg g).1 hh)).1; rw [this] at hg; cases hg
    have hk:=(hKg g).2 hg
    refine ⟨fun r o=>?_,fun l=>?_,?_⟩ <;> simp only [T1,kB,hz,hk,AK,if_false,if_true]
  have hid2:∀ n B,m0.get n=some B→B.tr (mP B0 b)=B:=by
    refine hcl _ fun g hg=>?_
    obtain ⟨B,hB⟩:=Zx.1 hg
    have:=(h0 g B hB).1
    have hn:eD B0 b g=g:=by unfold eD; rw [if_pos (by omega),if_neg (by omega)]
    refine ⟨fun r o=>?_,fun l=>?_,?_⟩ <;> simp only [mP,hn]
  have hgd0:Gd c0:=by
    refine Gd.mk' (fun n hn=>hc.lt n (hL0 n hn).1) (fun n n' hn hn' he=>hc.inj n n' (hL0 n hn).1 (hL0 n' hn').1 he) (fun n hn hh=>by
        rcases hh with q | ⟨g,q1,q2,_,q4⟩
        · exact hc.notF n (hL0 n hn).1 q
        · have:=hc.inj g n q1 (hL0 n hn).1 q4
          subst this
          simp [Ctx.L,c0,q2] at hn) (fun n hn=>⟨by have:=(hL0 n hn).2; omega,.inl hn⟩) (fun n B hB=>?_) (fun n hn=>by
        rcases hn with q | ⟨g,q1,_,_,rfl⟩
        · exact hc.flt n q
        · exact hc.lt g q1)
    obtain ⟨o,o1,o2⟩:=hc.blk (h0 n B hB).2
    refine ⟨o,o1,?_⟩
    rw [← hid1 n B hB]
    exact o2.tr hT1
  refine (hb1 c0 hgd0 rfl (fun n hn=>hn.1) vs ⟨?_,fun i x hi=>?_⟩).mono ?_
  · rw [← hargs,eH]; simpa using hvs.1
  · rw [← hargs] at hi
    obtain ⟨y,hy,rfl⟩:=hX hi
    exact (hvs.2 i y hy).tr hT1
  -- back
  rintro en w' ⟨c1,z,rfl,rfl,g1,s1,m1,u1,v1⟩
  let c':Ctx:={ F:=c.F,ρ:=fun n=>if b≤n∧n<b+16 then c1.ρ (n - b+B0) else c.ρ n,U:=fun n=>c.U n∨b≤n∧n<b+16,m:=ups c.m (eW kz Z ++ e.2.1.map (oS B0 b)),w:=c1.w }
  let mk:=ups c.m (eW kz Z)
  have hmk:∀ n B,mk n=some B→c.m n=some B∧(kz=true→n∉Z):=by
    intro n B hn
    simp only [mk,eW] at hn
    split at hn
    · rw [jZ] at hn
      split at hn
      · cases hn
      · rename_i hz; exact ⟨hn,fun _=>hz⟩
    · rename_i hk; exact ⟨hn,fun e=>absurd e hk⟩
  have hmk0:∀ n B,m0.get n=some B→mk n=c.m n:=by
    intro n B hn
    simp only [mk,eW]
    split
    · rw [jZ,if_neg (fun hz=>by have:=(hZ n hz).1; rw [hn] at this; cases this)]
    · rfl
  have m0none:∀ k,B0 - 1≤k→m0.get k=none:=by
    intro k hk
    cases hh:m0.get k with
    | none=>rfl
    | some B=>have:=(h0 k B hh).1; omega
  have c1m:∀ k,c1.m k=(dO e.2.1 k).getD (m0.get k):=fun k=>by rw [m1,fZ]
  have inj:∀ k,(k<B0 - 1∨B0≤k∧k<B0+15)→∀ p,p∈e.2.1→eD B0 b p.1=eD B0 b k→p.1=k:=by
    intro k hk p hp he
    obtain ⟨q1,q2⟩:=hups p hp
    have hpl:p.1<B0→p.1<B0 - 1:=fun hlt=>by
      obtain ⟨B,hB⟩:=Zx.1 (q2 hlt)
      exact (h0 _ B hB).1
    unfold eD at he
    rcases hk with hk | hk
    · rw [if_pos (show k<B0 by omega),if_neg (show ¬ k=B0 - 1 by omega)] at he
      by_cases hlt:p.1<B0
      · have:=hpl hlt
        rw [if_pos hlt,if_neg (by omega)] at he; exact he
      · rw [if_neg hlt,if_pos q1] at he; omega
    · rw [if_neg (show ¬ k<B0 by omega),if_pos hk.2] at he
      by_cases hlt:p.1<B0
      · have:=hpl hlt
        rw [if_pos hlt,if_neg (by omega)] at he; omega
      · rw [if_neg hlt,if_pos q1] at he; omega
  have cm:∀ k,(k<B0 - 1∨B0≤k∧k<B0+15)→c'.m (eD B0 b k)=((dO e.2.1 k).map (Option.map (·.tr (mP B0 b)))).getD (mk (eD B0 b k)):=by
    intro k hk
    show ups c.m (eW kz Z ++ e.2.1.map (oS B0 b)) _=_
    rw [fC,fZ]
    congr 1
    exact wU (φ:=eD B0 b) (ψ:=Option.map (·.tr (mP B0 b))) (inj k hk)
  have cmo:∀ n,(∀ p,p∈e.2.1→eD B0 b p.1≠n)→c'.m n=mk n:=by
    intro n hn
    show ups c.m (eW kz Z ++ e.2.1.map (oS B0 b)) n=_
    rw [fC,fZ,iM (fun p hp=>by
      obtain ⟨q,q1,rfl⟩:=AG.1 hp
      exact hn q q1)]
    rfl
  have up1:∀ k,k<B0 - 1→eD B0 b k=k:=fun k hk=>by unfold eD; rw [if_pos (by omega),if_neg (by omega)]
  have up2:∀ k,B0≤k∧k<B0+15→eD B0 b k=b+(k - B0):=fun k hk=>by unfold eD; rw [if_neg (by omega),if_pos hk.2]
  have upr:∀ p,p∈e.2.1→(eD B0 b p.1=p.1∧p.1<B0 - 1∧(m0.get p.1).isSome=true)∨(b≤eD B0 b p.1∧eD B0 b p.1<b+15):=by
    intro p hp
    obtain ⟨q1,q2⟩:=hups p hp
    by_cases hlt:p.1<B0
    · obtain ⟨B,hB⟩:=Zx.1 (q2 hlt)
      have:=(h0 _ B hB).1
      exact .inl ⟨up1 _ this,this,q2 hlt⟩
    · right
      rw [up2 _ ⟨by omega,q1⟩]; omega
  have hfresh:∀ n,b≤n→n<b+16→mk n=none:=by
    intro n n1 n2
    cases hh:mk n with
    | none=>rfl
    | some B=>exact absurd (hc.used n (by simp [Ctx.L,(hmk n B hh).1])) (hU n n1 n2)
  -- the three kinds of names
  have kinds:∀ n B,c'.m n=some B→(b≤n∧n<b+15∧∃ B1,c1.m (n - b+B0)=some B1∧B=B1.tr (mP B0 b)) ∨
      (¬ (b≤n∧n<b+16)∧(m0.get n).isSome=true∧n<B0 - 1∧∃ B1,c1.m n=some B1∧B=B1.tr (mP B0 b)) ∨
      (¬ (b≤n∧n<b+16)∧m0.get n=none∧c.m n=some B∧(kz=true→n∉Z)):=by
    intro n B hn
    by_cases hw:b≤n∧n<b+16
    · left
      by_cases h15:n<b+15
      · have hk:B0≤n - b+B0∧n - b+B0<B0+15:=by omega
        have hup:eD B0 b (n - b+B0)=n:=by rw [up2 _ hk]; omega
        have:=cm (n - b+B0) (.inr hk)
        rw [hup,hn,hfresh n hw.1 hw.2] at this
        refine ⟨hw.1,h15,?_⟩
        rw [c1m,m0none _ (by omega)]
        cases hl:dO e.2.1 (n - b+B0) with
        | none=>rw [hl] at this; simp at this
        | some x =>
          rw [hl] at this
          cases x with
          | none=>simp at this
          | some B1=>simp at this; exact ⟨B1,rfl,this⟩
      · have:=cmo n (fun p hp he=>by
          rcases upr p hp with ⟨q1,q2,_⟩ | ⟨q1,q2⟩ <;> omega)
        rw [this,hfresh n hw.1 hw.2] at hn; cases hn
    · right
      by_cases hs:(m0.get n).isSome=true
      · left
        obtain ⟨B1,hB1⟩:=Zx.1 hs
        obtain ⟨q1,q2⟩:=h0 n B1 hB1
        refine ⟨hw,hs,q1,?_⟩
        have:=cm n (.inl q1)
        rw [up1 n q1,hn,hmk0 n B1 hB1,q2] at this
        rw [c1m,hB1]
        cases hl:dO e.2.1 n with
        | none=>rw [hl] at this; simp at this; exact ⟨B1,rfl,by rw [hid2 n B1 hB1]; exact this⟩
        | some x =>
          rw [hl] at this
          cases x with
          | none=>simp at this
          | some B2=>simp at this; exact ⟨B2,rfl,this⟩
      · right
        refine ⟨hw,by simpa using hs,hmk n B ?_⟩
        rw [← cmo n (fun p hp he=>by
          rcases upr p hp with ⟨q1,q2,q3⟩ | ⟨q1,q2⟩
          · rw [← he,q1] at hs; exact hs q3
          · omega)]
        exact hn
  -- names below are as they were
  have ρ0:∀ n,(m0.get n).isSome=true→c1.L n→c1.ρ n=c.ρ n:=by
    intro n hs hl
    obtain ⟨B,hB⟩:=Zx.1 hs
    exact (s1.names n ⟨by have:=(h0 n B hB).1; omega,.inl hs⟩ hl).2
  have ρw:∀ n,b≤n∧n<b+16→c'.ρ n=c1.ρ (n - b+B0):=fun n hn=>by simp only [c',if_pos hn]
  have ρn:∀ n,¬ (b≤n∧n<b+16)→c'.ρ n=c.ρ n:=fun n hn=>by simp only [c',if_neg hn]
  have kindL:∀ n,c'.L n→(b≤n∧n<b+15∧c1.L (n - b+B0)∧c'.ρ n=c1.ρ (n - b+B0))∨(¬ (b≤n∧n<b+16)∧(m0.get n).isSome=true∧n<B0 - 1∧c1.L n∧c'.ρ n=c1.ρ n∧c.L n∧c'.ρ n=c.ρ n) ∨
      (¬ (b≤n∧n<b+16)∧m0.get n=none∧c.L n∧c'.ρ n=c.ρ n∧(kz=true→n∉Z)):=by
    intro n hn
    obtain ⟨B,hB⟩:=Zx.1 hn
    rcases kinds n B hB with ⟨q1,q2,B1,q3,_⟩ | ⟨q1,q2,q3,B1,q4,_⟩ | ⟨q1,q2,q3,q4⟩
    · exact .inl ⟨q1,q2,by simp [Ctx.L,q3],ρw n ⟨q1,by omega⟩⟩
    · have hl:c1.L n:=by simp [Ctx.L,q4]
      obtain ⟨B2,hB2⟩:=Zx.1 q2
      exact .inr (.inl ⟨q1,q2,q3,hl,by rw [ρn n q1,ρ0 n q2 hl],by simp [Ctx.L,(h0 n B2 hB2).2],ρn n q1⟩)
    · exact .inr (.inr ⟨q1,q2,by simp [Ctx.L,q3],ρn n q1,q4⟩)
  have own1:∀ n,c'.own n→c1.own n∨∃ g,c.L g∧m0.get g=none∧(kz=true→g∉Z)∧(c.ρ g).blk=n:=by
    rintro n ⟨g,q1,rfl⟩
    rcases kindL g q1 with ⟨_,_,q4,q5⟩ | ⟨_,_,_,q4,q5,_⟩ | ⟨_,q3,q4,q5,q6⟩
    · exact .inl ⟨_,q4,by rw [q5]⟩
    · exact .inl ⟨_,q4,by rw [q5]⟩
    · exact .inr ⟨g,q4,q3,q6,by rw [q5]⟩
  have hst:St c c':=by
    refine ⟨s1.os,s1.tape,s1.output,s1.size,fun n hn ho=>s1.keep n hn (fun q=>ho (hown0 n q)),rfl,fun n hn ho=>?_,fun n hn=>.inl hn,fun n hn hl=>?_⟩
    · rcases own1 n ho with q | ⟨g,q1,_,_,q2⟩
      · exact hown0 n (s1.own n hn q)
      · exact ⟨g,q1,q2⟩
    · have hnw:¬ (b≤n∧n<b+16):=fun hw=>hU n hw.1 hw.2 hn
      rcases kindL n hl with ⟨q1,q2,_⟩ | ⟨_,_,_,_,_,q6,q7⟩ | ⟨_,_,q4,q5,_⟩
      · omega
      · exact ⟨q6,q7⟩
      · exact ⟨q4,q5⟩
  let cF:Ctx:={ c1 with F:=fun n=>c1.F n∨kz=false∧∃ g,g∈Z∧c.L g∧(c.ρ g).blk=n }
  have hF1:∀ n,c.F n→c1.F n:=fun n hn=>by rw [s1.F]; exact .inl hn
  have hT2 : TrOk (mP B0 b) cF c':=by
    have nm:∀ g,c1.U g→c'.U (eD B0 b g)∧(c'.L (eD B0 b g)→c1.L g∧c'.ρ (eD B0 b g)=c1.ρ g):=by
      intro g hg
      have hdd:¬ c'.L (b+15):=fun hl=>by
        rcases kindL _ hl with ⟨q1,q2,_⟩ | ⟨q1,_⟩ | ⟨q1,_⟩ <;> omega
      have hc0:c0.U g∨B0≤g∧g<B0+16:=by
        rcases u1 g hg with q | q
        · exact .inr q
        · exact .inl q
      rcases hc0 with ⟨q1,q2 | q2⟩ | q
      · obtain ⟨B,hB⟩:=Zx.1 q2
        obtain ⟨q3,q4⟩:=h0 g B hB
        rw [up1 g q3]
        have hcU:=hc.used g (by simp [Ctx.L,q4])
        refine ⟨.inl hcU,fun hl=>?_⟩
        have hnw:¬ (b≤g∧g<b+16):=fun hw=>hU g hw.1 hw.2 hcU
        rcases kindL g hl with ⟨p1,p2,_⟩ | ⟨_,_,_,p4,p5,_⟩ | ⟨_,p2,_⟩
        · omega
        · exact ⟨p4,p5⟩
        · rw [p2] at q2; cases q2
      · subst q2
        have:eD B0 b (B0 - 1)=b+15:=by unfold eD; rw [if_pos (by omega),if_pos rfl]
        rw [this]
        exact ⟨.inr ⟨by omega,by omega⟩,fun hl=>absurd hl hdd⟩
      · by_cases h15:g<B0+15
        · rw [up2 g ⟨q.1,h15⟩]
          refine ⟨.inr ⟨by omega,by omega⟩,fun hl=>?_⟩
          have e1:b+(g - B0) - b+B0=g:=by omega
          rcases kindL _ hl with ⟨_,_,p3,p4⟩ | ⟨p1,_⟩ | ⟨p1,_⟩
          · rw [e1] at p3 p4; exact ⟨p3,p4⟩
          · omega
          · omega
        · have:eD B0 b g=b+15:=by unfold eD; rw [if_neg (by omega),if_neg h15]
          rw [this]
          exact ⟨.inr ⟨by omega,by omega⟩,fun hl=>absurd hl hdd⟩
    refine ⟨fun g r o v hv=>?_,fun g l v hv=>?_,fun g v hv=>?_,fun _ _ _=>rfl,fun _ _=>rfl,fun _=>rfl,fun n hn ho hh=>?_,AP _,fun _ _ _ _=>rfl⟩
    · cases hv with
      | ptr _ _ _ a q1 q2 =>
        obtain ⟨p1,p2⟩:=nm g q1
        refine .ptr _ _ _ a p1 fun hl=>?_
        obtain ⟨p3,p4⟩:=p2 hl
        rw [p4]; exact q2 p3
    · cases hv with
      | slm _ _ a n k q1 q2 =>
        obtain ⟨p1,p2⟩:=nm g q1
        refine .slm _ _ a n k p1 fun hl=>?_
        obtain ⟨p3,p4⟩:=p2 hl
        rw [p4]; exact q2 p3
    · cases hv with
      | mapm _ r q1 q2 =>
        obtain ⟨p1,p2⟩:=nm g q1
        refine .mapm _ r p1 fun hl=>?_
        obtain ⟨p3,p4⟩:=p2 hl
        rw [p4]; exact q2 p3
    · have hno:¬ c1.own n:=fun q=>ho (.inr q)
      have hnf:¬ cF.F n:=fun q=>ho (.inl q)
      rcases hh with q | q
      · exact hnf (.inl (hF1 n q))
      · rcases own1 n q with q | ⟨g,q1,q2,q3,q4⟩
        · exact hno q
        · by_cases hz:g∈Z
          · refine hnf (.inr ⟨?_,g,hz,q1,q4⟩)
            cases kz with
            | false=>rfl
            | true=>exact absurd hz (q3 rfl)
          · exact hnf (.inl (by rw [s1.F]; exact .inr ⟨g,q1,q2,hz,q4⟩))
  have toF:(kz=true∨Z=[])→cF.F=c1.F:=by
    intro hh
    funext n
    apply propext
    constructor
    · rintro (q | ⟨q1,g,q2,_⟩)
      · exact q
      · rcases hh with hh | hh
        · rw [q1] at hh; cases hh
        · rw [hh] at q2; cases q2
    · exact fun q=>.inl q
  have hcF:(kz=true∨Z=[])→cF=c1:=by
    intro hh
    have:=toF hh
    show ({ c1 with F:=cF.F }:Ctx)=c1
    rw [this]
  have vF:∀ v,VR c1 e.1 v→VR cF e.1 v:=by
    intro v hv
    rcases hfl with q | q | ⟨_,q,_⟩
    · rw [hcF (.inl q)]; exact hv
    · rw [hcF (.inr q)]; exact hv
    · exact VR.moreF (c:=c1) (c':=cF) rfl rfl rfl hv q
  have bF : ∀ n B ni o,c1.m n=some B→BlkOk c1 ni o B→BlkOk cF ni o B:=by
    intro n B ni o hB hok
    rcases hfl with q | q | ⟨q0,_,q⟩
    · rw [hcF (.inl q)]; exact hok
    · rw [hcF (.inr q)]; exact hok
    · refine BlkOk.moreF (c:=c1) (c':=cF) rfl rfl rfl hok ?_
      rw [c1m,q0] at hB
      cases hl:dO e.2.1 n with
      | none=>rw [hl] at hB; simp [BY] at hB
      | some x =>
        rw [hl] at hB
        simp at hB
        have : ∃ p,p∈e.2.1∧p.2=some B:=by
          have gen:∀ (l:List (Nat×Option Blk)) (acc:Option (Option Blk)),l.foldl (fun acc p=>if p.1=n then some p.2 else acc) acc=some x→acc=some x∨∃ p,p∈l∧p.2=x:=by
            intro l
            induction l with
            | nil=>intro acc h; exact .inl h
            | cons p l ih =>
              intro acc h
              simp only [BM] at h
              rcases ih _ h with h | ⟨r,r1,r2⟩
              · split at h
                · exact .inr ⟨p,BH ..,Zm h⟩
                · exact .inl h
              · exact .inr ⟨r,AR _ r1,r2⟩
          rcases gen _ _ hl with h | ⟨p,p1,p2⟩
          · cases h
          · exact ⟨p,p1,by rw [p2,hB]⟩
        obtain ⟨p,p1,p2⟩:=this
        exact q p p1 B p2
  have hgd:Gd c':=by
    refine Gd.mk' (fun n hn=>?_) (fun n n' hn hn' he=>?_) (fun n hn=>?_) (fun n hn=>?_) (fun n B hB=>?_) (fun n hn=>AN (hc.flt n hn) s1.size)
    · rcases kindL n hn with ⟨_,_,q4,q5⟩ | ⟨_,_,_,q4,q5,_⟩ | ⟨_,q3,q4,q5,q6⟩ <;> rw [q5]
      · exact g1.lt _ q4
      · exact g1.lt _ q4
      · exact AN (hc.lt n q4) s1.size
    · have WU:∀ k u,c1.L k→c.L u→m0.get u=none→(c1.ρ k).blk=(c.ρ u).blk→False:=by
        intro k u hk hu hu0 he
        exact hnone u hu hu0 (s1.own _ (hc.lt u hu) ⟨k,hk,he⟩)
      rcases kindL n hn with ⟨p1,p2,p4,p5⟩ | ⟨p1,p2,p3,p4,p5,p6,p7⟩ | ⟨p1,p3,p4,p5,p6⟩ <;> rcases kindL n' hn' with ⟨q1,q2,q4,q5⟩ | ⟨q1,q2,q3,q4,q5,q6,q7⟩ | ⟨q1,q3,q4,q5,q6⟩
      · rw [p5,q5] at he
        have:=g1.inj _ _ p4 q4 he
        omega
      · rw [p5,q5] at he
        have:=g1.inj _ _ p4 q4 he
        omega
      · rw [p5,q5] at he
        exact (WU _ _ p4 q4 q3 he).elim
      · rw [p5,q5] at he
        have:=g1.inj _ _ p4 q4 he
        omega
      · rw [p5,q5] at he
        exact g1.inj _ _ p4 q4 he
      · rw [p7,q5] at he
        exact hc.inj _ _ p6 q4 he
      · rw [p5,q5] at he
        exact (WU _ _ q4 p4 p3 he.symm).elim
      · rw [p5,q7] at he
        exact hc.inj _ _ p4 q6 he
      · rw [p5,q5] at he
        exact hc.inj _ _ p4 q4 he
    · rcases kindL n hn with ⟨_,_,q4,q5⟩ | ⟨_,_,_,q4,q5,_⟩ | ⟨_,q3,q4,q5,q6⟩ <;> rw [q5]
      · exact fun q=>g1.notF _ q4 (hF1 _ q)
      · exact fun q=>g1.notF _ q4 (hF1 _ q)
      · exact hc.notF n q4
    · rcases kindL n hn with ⟨q1,q2,_⟩ | ⟨_,_,_,_,_,q6,_⟩ | ⟨_,q3,q4,_⟩
      · exact .inr ⟨q1,by omega⟩
      · exact .inl (hc.used n q6)
      · exact .inl (hc.used n q4)
    · rcases kinds n B hB with ⟨q1,q2,B1,q3,rfl⟩ | ⟨q1,q2,q3,B1,q4,rfl⟩ | ⟨q1,q2,q3,q4⟩
      · obtain ⟨o,o1,o2⟩:=g1.blk q3
        rw [ρw n ⟨q1,by omega⟩]
        exact ⟨o,o1,(bF _ _ _ _ q3 o2).tr hT2⟩
      · obtain ⟨o,o1,o2⟩:=g1.blk q4
        rw [ρn n q1,← ρ0 n q2 (by simp [Ctx.L,q4])]
        exact ⟨o,o1,(bF _ _ _ _ q4 o2).tr hT2⟩
      · obtain ⟨o,o1,o2⟩:=hc.blk q3
        have hl:c.L n:=by simp [Ctx.L,q3]
        rw [ρn n q1]
        refine ⟨o,?_,o2.mono hst⟩
        have:=s1.keep (c.ρ n).blk (hc.lt n hl) (hnone n hl q2)
        show c1.w.heap[(c.ρ n).blk]?=some o
        rw [this]; exact o1
  refine ⟨c',z,rfl,rfl,hgd,hst,rfl,fun n hn=>?_,(vF z v1).tr hT2⟩
  rcases hn with q | q
  · exact .inr q
  · exact .inl q

theorem fT {kz:Bool} {f:FuncId} {args args':List AV} {e:Ef} {m0:AM} {B0:Nat} {m:Nat→Option Blk} {b:Nat} {Z:List Nat} (h:yP P f args e m0.get B0) (h1:1≤B0) (hb:B0≤b)
    (h0:∀ n B,m0.get n=some B→n<B0 - 1∧m n=some B) (hKs:∀ n,n∈m0.map (·.1)↔(m0.get n).isSome=true)
    (hcl:∀ T:Tr,(∀ g,(m0.get g).isSome=true→(∀ r o,T.p g r o=.ptr g r o)∧(∀ l,T.s g l=.slm g l)∧T.mp g=.mapm g)→∀ n B,m0.get n=some B→B.tr T=B)
    (hZ:∀ g,g∈Z→m0.get g=none∧∀ t sz rs,m g=some (.rows t sz rs)→puress rs=true) (hargs:trs (kB m (m0.map (·.1)) B0 Z) args'=args)
    (hups:∀ p,p∈e.2.1→p.1<B0+15∧(p.1<B0→(m0.get p.1).isSome=true)) (hfl:kz=true∨Z=[]∨m0=[]∧e.1.flat=true∧∀ p,p∈e.2.1→∀ B,p.2=some B→B.flat=true) :
    Dc P f args' (e.1.tr (mP B0 b),eW kz Z ++ e.2.1.map (oS B0 b),m0.map (·.1) ++ Z) m b:=by
  intro m' hm'
  refine Ag h h1 hb (fun n B hn=>⟨(h0 n B hn).1,?_⟩) hKs hcl (fun g hg=>⟨(hZ g hg).1,fun t sz rs hr=>(hZ g hg).2 t sz rs ?_⟩) ?_ hups hfl _
  · rw [hm' n (List.mem_append_left _ ((hKs n).2 (by rw [hn]; rfl)))]; exact (h0 n B hn).2
  · rw [← hm' g (DK _ hg)]; exact hr
  · have : kB m' (m0.map (·.1)) B0 Z=kB m (m0.map (·.1)) B0 Z:=by
      unfold kB
      congr 1
      · funext g r o
        by_cases hg:Z.contains g=true
        · simp only [if_pos hg,vwP,hm' g (DK _ (AH.1 hg))]
        · simp only [if_neg hg]
      · funext g l
        by_cases hg:Z.contains g=true
        · simp only [if_pos hg,vwS,hm' g (DK _ (AH.1 hg))]
        · simp only [if_neg hg]
    rw [this]; exact hargs

def bO (P:Program) (f:FuncId) (args:List AV) (e:Ef):Prop:=yP P f args e (BY []) 1

theorem AC.pure {kz:Bool} {f:FuncId} {args args':List AV} {e:Ef} {m:AM} {b:Nat} {κ:Ef→Prop} (Z:List Nat) (h:bO P f args e) (hb:1≤b) (hz:cC m Z=true) (hargs:trs (kB m.get [] 1 Z) args'=args)
    (hups:e.2.1.all (fun p=>decide (1≤p.1) && decide (p.1<16))=true) (hfl:kz=true∨Z=[]∨e.1.flat=true∧∀ p,p∈e.2.1→∀ B,p.2=some B→B.flat=true)
    (hκ:κ (e.1.tr (mP 1 b),eW kz Z ++ e.2.1.map (oS 1 b),Z)):AC P f args' m b κ:=by
  refine ⟨_,fT (kz:=kz) (m0:=[]) (Z:=Z) h (AP 1) hb (fun n B hn=>by cases hn) (fun n=>by simp [BY]) (fun T _ n B hn=>by cases hn) (fun g hg=>⟨rfl,fun t sz rs hr=>?_⟩) hargs (fun p hp=>?_) ?_,hκ⟩
  · have:=AA.1 hz g hg
    rw [hr] at this
    exact this
  · have:=AA.1 hups p hp
    simp only [Zq,decide_eq_true_eq] at this
    exact ⟨by omega,fun h=>by omega⟩
  · rcases hfl with q | q | q
    · exact .inl q
    · exact .inr (.inl q)
    · exact .inr (.inr ⟨rfl,q⟩)
end
section
variable {P:Program} {κ:Ef→Prop} {env:List AV} {m:AM} {b:Nat}
def pS:Option AV→(Ef→Prop)→Prop
  | some v,κ=>κ (v,[],[])
  | none,_=>False
theorem dV (x:Option AV):fP (x.map fun v=>{ v:=v }) κ=pS x κ:=by cases x <;> rfl
def Ij:Option (List Nat)→Option AV→(Ef→Prop)→Prop
  | some rd,some v,κ=>κ (v,[],rd)
  | _,_,_=>False
theorem rQ (x:Option (List Nat)) (y:Option AV):fP (x.bind fun rd=>y.map fun v=>{ v:=v,rd:=rd }) κ=Ij x y κ:=by cases x <;> cases y <;> rfl
theorem v_mv (x:Opd):dX P (.mv x) κ env m b=κ (x.eval env,[],[]):=rfl
theorem v_ext (x:Opd) (i:Nat):dX P (.ext x i) κ env m b=pS (doExt (x.eval env) i) κ:=dV _
theorem v_not (x:Opd):dX P (.not x) κ env m b=pS (doNot (x.eval env)) κ:=dV _
theorem v_bin (op:BinOp) (x y:Opd):dX P (.bin op x y) κ env m b=pS (iX op (x.eval env) (y.eval env)) κ:=dV _
theorem v_eqb (dU:Bool) (x y:Opd):dX P (.eqb dU x y) κ env m b=pS (doEqb dU (x.eval env) (y.eval env)) κ:=dV _
theorem v_eqs (dU:Bool) (ks:List CK) (x y:Opd):dX P (.eqs dU ks x y) κ env m b=pS (aL dU ks (x.eval env) (y.eval env)) κ:=dV _
theorem v_eqn (dU:Bool) (x:Opd):dX P (.eqn dU x) κ env m b=fP (gU m.get dU (x.eval env)) κ:=rfl
theorem v_conv (k:IntKind) (x:Opd):dX P (.conv k x) κ env m b=pS (lY k (x.eval env)) κ:=dV _
theorem v_fld (o n:Nat) (g:Bool) (x:Opd):dX P (.fld o n g x) κ env m b=pS (doFld o n g (x.eval env)) κ:=dV _
theorem v_build (z:List AV) (ps:List (Nat×Nat×Opd)):dX P (.build z ps) κ env m b=pS (doBuild z (ps.map fun (o,n,x)=>(o,n,x.eval env))) κ:=dV _
theorem v_tassert (t:TypeId) (ok:Bool) (x:Opd):dX P (.tassert t ok x) κ env m b=pS (fR t ok (x.eval env)) κ:=dV _
theorem v_mn (x y:Opd):dX P (.mn x y) κ env m b=pS (pB (x.eval env) (y.eval env)) κ:=dV _
theorem v_mx (x y:Opd):dX P (.mx x y) κ env m b=pS (pC (x.eval env) (y.eval env)) κ:=dV _
theorem v_faddr (o:Nat) (x:Opd):dX P (.faddr o x) κ env m b=Ij (dT m.get (x.eval env)) (fG o (x.eval env)) κ:=rQ _ _
theorem v_aaddr (l z:Nat) (x i:Opd):dX P (.aaddr l z x i) κ env m b=Ij (dT m.get (x.eval env)) (gD l z (x.eval env) (i.eval env)) κ:=rQ _ _
theorem v_nilchk (x:Opd):dX P (.nilchk x) κ env m b=Ij (dT m.get (x.eval env)) (doNilchk (x.eval env)) κ:=rQ _ _
theorem v_iaddr (z:Nat) (x i:Opd):dX P (.iaddr z x i) κ env m b=fP (cE m.get z (x.eval env) (i.eval env)) κ:=rfl
theorem v_slc (z:Nat) (x:Opd) (lo hi:Option Opd):dX P (.slc z x lo hi) κ env m b=fP (gO m.get b z (x.eval env) (lo.map (·.eval env)) (hi.map (·.eval env))) κ:=rfl
theorem v_len (x:Opd):dX P (.len x) κ env m b=fP (dP m.get (x.eval env)) κ:=rfl
theorem v_app (t:TypeId) (z y:Nat) (s x:Opd):dX P (.app t z y s x) κ env m b=fP (doApp m.get b t z y (s.eval env) (x.eval env)) κ:=rfl
theorem v_cpy (z:Nat) (d s:Opd):dX P (.cpy z d s) κ env m b=fP (jU m.get z (d.eval env) (s.eval env)) κ:=rfl
theorem v_ld (n:Nat) (g:Bool) (x:Opd):dX P (.ld n g x) κ env m b=fP (aZ m.get n g (x.eval env)) κ:=rfl
theorem v_st (n:Nat) (x v:Opd):dX P (.st n x v) κ env m b=fP (bJ m.get n (x.eval env) (v.eval env)) κ:=rfl
theorem v_lkp (z:AV) (ok:Bool) (p k:Opd):dX P (.lkp z ok p k) κ env m b=fP (gV m.get z ok (p.eval env) (k.eval env)) κ:=rfl
theorem v_mupd (p k v:Opd):dX P (.mupd p k v) κ env m b=fP (fL m.get (p.eval env) (k.eval env) (v.eval env)) κ:=rfl
theorem v_mdel (p k:Opd):dX P (.mdel p k) κ env m b=fP (kK m.get (p.eval env) (k.eval env)) κ:=rfl
theorem v_alloc (t:TypeId) (z:List AV):dX P (.alloc t z) κ env m b=fP (doBox b t z) κ:=rfl
theorem v_box (t:TypeId) (x:Opd):dX P (.box t x) κ env m b=fP (doBox b t (x.eval env).cells) κ:=rfl
theorem v_bslice (t:TypeId) (z n:Nat) (ps:List Opd):dX P (.bslice t z n ps) κ env m b=fP (aX b t z n (ps.map (·.eval env))) κ:=rfl
theorem v_mkslice (t:TypeId) (z:Nat) (o:List AV) (y:Nat) (l c:Opd):dX P (.mkslice t z o y l c) κ env m b=fP (iJ b t z o y (l.eval env) (c.eval env)) κ:=rfl
theorem v_mkfn (f:Fn) (x y:List Opd):dX P (.mkfn f x y) κ env m b=κ (.fn f (x.map (·.eval env)) (y.map (·.eval env)),[],[]):=rfl
theorem v_mkif (t:TypeId) (x:Opd):dX P (.mkif t x) κ env m b=κ (.iface t (x.eval env),[],[]):=rfl
theorem v_mkmap  : dX P (.mkmap) κ env m b=κ (.mapm b,[(b,some (.mp []))],[]):=rfl
theorem v_call (f:FuncId) (xs:List Opd):dX P (.call f xs) κ env m b=AC P f (xs.map (·.eval env)) m b κ:=rfl
theorem v_callv (f:Opd) (xs:List Opd):dX P (.callv f xs) κ env m b=jQ P (f.eval env) (xs.map (·.eval env)) m b κ:=rfl
theorem e_tmp (t:Nat):(Opd.tmp t).eval env=env.getD t .und:=rfl
theorem e_const (x:AV):(Opd.const x).eval env=x:=rfl
theorem e_func (f:FuncId):(Opd.func f).eval env=.fn (.func f) [] []:=rfl
theorem g_0 (x:AV) (l:List AV) (d:AV):(x :: l).getD 0 d=x:=rfl
theorem g_s (x:AV) (l:List AV) (n:Nat) (d:AV):(x :: l).getD (n+1) d=l.getD n d:=rfl
theorem p_none (x:AV):gG env none x=env:=rfl
theorem p_some (d:Nat) (x:AV):gG env (some d) x=env.set d x:=rfl
theorem s_0 (x y:AV) (l:List AV):(x :: l).set 0 y=y :: l:=rfl
theorem s_s (x y:AV) (l:List AV) (n:Nat):(x :: l).set (n+1) y=x :: l.set n y:=rfl
theorem nx (k:KE) (d:Option Nat) (v:AV) (u:List (Nat×Option Blk)) (rd:List Nat):xW k d env m b (v,u,rd)=k (gG env d v) (m.upd u) (b+16):=rfl
theorem u_nil:m.upd []=m:=rfl
theorem u_some (g:Nat) (B:Blk) (l:List (Nat×Option Blk)):m.upd ((g,some B) :: l)=(m.rep g B).upd l:=rfl
theorem u_none (g:Nat) (l:List (Nat×Option Blk)):m.upd ((g,none) :: l)=(m.del g).upd l:=rfl
theorem m_get_nil (n:Nat):BY [] n=none:=rfl
theorem m_get_same (g:Nat) (B:Blk) (l:AM):BY ((g,B) :: l) g=some B:=by simp [BY]
theorem m_get (g:Nat) (B:Blk) (l:AM) (n:Nat):BY ((g,B) :: l) n=if n=g then some B else BY l n:=rfl
theorem m_rep_nil (g:Nat) (B:Blk):AM.rep [] g B=[(g,B)]:=rfl
theorem m_rep (k:Nat) (B':Blk) (l:AM) (g:Nat) (B:Blk):AM.rep ((k,B') :: l) g B=if g=k then (k,B) :: l else (k,B') :: AM.rep l g B:=rfl
theorem m_del_nil (g:Nat):EZ [] g=[]:=rfl
theorem m_del (k:Nat) (B':Blk) (l:AM) (g:Nat):EZ ((k,B') :: l) g=if g=k then EZ l g else (k,B') :: EZ l g:=rfl
theorem k_some (r:OR):fP (some r) κ=κ (r.v,r.ups,r.rd):=rfl
theorem kv_some (v:AV):pS (some v) κ=κ (v,[],[]):=rfl
theorem lv_some (rd:List Nat) (v:AV):Ij (some rd) (some v) κ=κ (v,[],rd):=rfl
theorem bin_int (op:BinOp) (k:IntKind) (x y:Int):iX op (.int k x) (.int k y)=jB op k x y:=by simp [iX]
theorem mn_int (k:IntKind) (x y:Int):pB (.int k x) (.int k y)=some (.int k (if y<x then y else x)):=by simp [pB]
theorem mx_int (k:IntKind) (x y:Int):pC (.int k x) (.int k y)=some (.int k (if x<y then y else x)):=by simp [pC]
theorem i_add (k:IntKind) (x y:Int):jB .add k x y=some (.int k (k.wrap (x+y))):=rfl
theorem i_sub (k:IntKind) (x y:Int):jB .sub k x y=some (.int k (k.wrap (x - y))):=rfl
theorem i_mul (k:IntKind) (x y:Int):jB .mul k x y=some (.int k (k.wrap (x * y))):=rfl
theorem i_eql (k:IntKind) (x y:Int):jB .eql k x y=some (.bool (decide (x=y))):=rfl
theorem i_neq (k:IntKind) (x y:Int):jB .neq k x y=some (.bool (!decide (x=y))):=rfl
theorem i_lss (k:IntKind) (x y:Int):jB .lss k x y=some (.bool (decide (x<y))):=rfl
theorem i_leq (k:IntKind) (x y:Int):jB .leq k x y=some (.bool (decide (x≤y))):=rfl
theorem i_gtr (k:IntKind) (x y:Int):jB .gtr k x y=some (.bool (decide (x > y))):=rfl
theorem i_geq (k:IntKind) (x y:Int):jB .geq k x y=some (.bool (decide (x≥y))):=rfl
theorem i_rem (k:IntKind) (x y:Int):jB .rem k x y=if y=0 then none else some (.int k (x.tmod y)):=rfl
theorem i_quo (k:IntKind) (x y:Int):jB .quo k x y=if y=0 then none else some (.int k (k.wrap (x.tdiv y))):=rfl
theorem c_bool (t:Bool) (x y:KE):nE (.bool t) x y env m b=lB t x y env m b:=rfl
theorem c_true (x y:KE):lB true x y env m b=x env m b:=rfl
theorem c_false (x y:KE):lB false x y env m b=y env m b:=rfl
theorem aH {t:Bool} {x y:KE} (h1:t=true→x env m b) (h2:t=false→y env m b):lB t x y env m b:=by
  cases t
  · exact h2 rfl
  · exact h1 rfl
theorem aT {t:Bool} {op:AOp} (h1:t=true→dX P op κ env m b) (h2:t=false→κ (.tup [],[],[])):gT P t op κ env m b:=by
  cases t
  · exact h2 rfl
  · exact h1 rfl
theorem aO {t:Bool} {op:AOp} (h1:t=false→dX P op κ env m b) (h2:t=true→κ (.tup [],[],[])):gT P (!t) op κ env m b:=by
  cases t
  · exact h1 rfl
  · exact h2 rfl
theorem aC {t:Bool} {x y:KE} (h1:t=false→x env m b) (h2:t=true→y env m b):lB (!t) x y env m b:=by
  cases t
  · exact h1 rfl
  · exact h2 rfl
def sV:AV→AV→AV→(Ef→Prop)→Prop
  | .bool t,x,y,κ=>κ (if t then x else y,[],[])
  | _,_,_,_=>False
theorem v_pick (c x y:Opd):dX P (.pick c x y) κ env m b=sV (c.eval env) (x.eval env) (y.eval env) κ:=by
  simp only [dX,aop]
  cases c.eval env <;> rfl
theorem pk_true (x y:AV):sV (.bool true) x y κ=κ (x,[],[]):=rfl
theorem pk_false (x y:AV):sV (.bool false) x y κ=κ (y,[],[]):=rfl
theorem pk_bb (t u v:Bool):sV (.bool t) (.bool u) (.bool v) κ=κ (.bool (bif t then u else v),[],[]):=by cases t <;> rfl
theorem lf_ptr (f:Nat→Option Blk) (g r o:Nat):dT f (.ptr g r o)=if (f g).isSome then some [g] else none:=rfl
theorem lf_pv (f:Nat→Option Blk) (cs:List AV):dT f (.pv cs)=some []:=rfl
theorem lf_fn (f:Nat→Option Blk) (x:Fn) (a c:List AV):dT f (.fn x a c)=some []:=rfl
theorem fa_ptr (o g r k:Nat):fG o (.ptr g r k)=some (.ptr g r (k+o)):=rfl
theorem fa_pv (o:Nat) (cs:List AV):fG o (.pv cs)=some (.pv (cs.drop o)):=rfl
theorem r_nil (k:KE):kA P [] k env m b=k env m b:=rfl
theorem r_cons (d:Option Nat) (op:AOp) (af:List Nat) (rest:List AO) (k:KE):kA P (⟨d,op,none,af⟩ :: rest) k env m b=dX P op (xW (kA P rest k) d env m b) env m b:=rfl
theorem r_consg (d:Option Nat) (op:AOp) (s:Nat) (w:Bool) (af:List Nat) (rest:List AO) (k:KE):kA P (⟨d,op,some (s,w),af⟩ :: rest) k env m b=cU P (env.getD s .und) w op (xW (kA P rest k) d env m b) env m b:=rfl
theorem t_nil (un:List (Nat×Nat)) (k:KE) (tr:List Ef):jK P un [] k tr env m b=(dynOk un tr.reverse=true∧k env m b):=rfl
theorem t_cons (un:List (Nat×Nat)) (d:Option Nat) (op:AOp) (af:List Nat) (rest:List AO) (k:KE) (tr:List Ef):jK P un (⟨d,op,none,af⟩ :: rest) k tr env m b=dX P op (xX (jK P un rest k) tr d env m b) env m b:=rfl
theorem t_consg (un:List (Nat×Nat)) (d:Option Nat) (op:AOp) (s:Nat) (w:Bool) (af:List Nat) (rest:List AO) (k:KE) (tr:List Ef):jK P un (⟨d,op,some (s,w),af⟩ :: rest) k tr env m b=cU P (env.getD s .und) w op (xX (jK P un rest k) tr d env m b) env m b:=rfl
theorem nt (k:List Ef→KE) (tr:List Ef) (d:Option Nat) (v:AV) (u:List (Nat×Option Blk)) (rd:List Nat):xX k tr d env m b (v,u,rd)=k ((v,u,rd) :: tr) (gG env d v) (m.upd u) (b+16):=rfl
theorem g_bool (t w:Bool) (op:AOp):cU P (.bool t) w op κ env m b=gT P (t == w) op κ env m b:=rfl
theorem g_tup (w:Bool) (op:AOp):cU P (.tup []) w op κ env m b=κ (.tup [],[],[]):=rfl
theorem gt_true (op:AOp):gT P true op κ env m b=dX P op κ env m b:=rfl
theorem gt_false (op:AOp):gT P false op κ env m b=κ (.tup [],[],[]):=rfl
theorem ck_fn (g:FuncId) (x y z:List AV):jQ P (.fn (.func g) x y) z m b κ=AC P g (x ++ z ++ y) m b κ:=rfl
variable {b0:Nat} {K:KX}
theorem vc_skip:vc P b0 .skip K env m b=K .normal env m b:=rfl
theorem vc_ret:vc P b0 .ret K env m b=K .ret env m b:=rfl
theorem vc_exit (i:Nat):vc P b0 (.exit i) K env m b=K (.exit i) env m b:=rfl
theorem vc_seq (x y:ACode):vc P b0 (.seq x y) K env m b=vc P b0 x (qO (vc P b0 y K) K) env m b:=rfl
theorem vc_block (i:Nat) (x:ACode):vc P b0 (.block i x) K env m b=vc P b0 x (gP i K) env m b:=rfl
theorem vc_cond (c:Opd) (x y:ACode):vc P b0 (.cond c x y) K env m b=nE (c.eval env) (vc P b0 x K) (vc P b0 y K) env m b:=rfl
theorem vc_loop (x:ACode):vc P b0 (.loop x) K env m b=LP b0 (vc P b0 x) K env m b:=rfl
theorem vc_reg (ops:List AO):vc P b0 (.reg ops) K env m b=kA P ops (K .normal) env m b:=rfl
theorem vc_regT (ops:List AO) (un:List (Nat×Nat)):vc P b0 (.regT ops un) K env m b=jK P un ops (K .normal) [] env m b:=rfl
theorem th_normal (k:KE):qO k K .normal env m b=k env m b:=rfl
theorem th_exit (k:KE) (i:Nat):qO k K (.exit i) env m b=K (.exit i) env m b:=rfl
theorem th_ret (k:KE):qO k K .ret env m b=K .ret env m b:=rfl
theorem ib_normal (i:Nat):gP i K .normal env m b=K .normal env m b:=rfl
theorem ib_exit (i j:Nat):gP i K (.exit j) env m b=if j=i then K .normal env m b else K (.exit j) env m b:=rfl
theorem ib_ret (i:Nat):gP i K .ret env m b=K .ret env m b:=rfl
variable {rs:List (Nat×Option (Nat×Bool))} {fin:AV→AM→Nat→Prop}
theorem rt_normal:dH rs fin .normal env m b=fE (resL env m.get rs) fin m b:=rfl
theorem rt_ret:dH rs fin .ret env m b=fE (resL env m.get rs) fin m b:=rfl
theorem rs_some (l:List AV):fE (some l) fin m b=fin (cI l) m b:=rfl
theorem rl_nil (f:Nat→Option Blk):resL env f []=some []:=rfl
theorem rl_cons (f:Nat→Option Blk) (t:Nat) (l:List (Nat×Option (Nat×Bool))):resL env f ((t,none) :: l)=(resL env f l).map (env.getD t .und :: ·):=by
  simp only [resL,oQ]
  cases resL env f l <;> rfl
theorem rl_cell (f:Nat→Option Blk) (t n:Nat) (g:Bool) (l:List (Nat×Option (Nat×Bool))):resL env f ((t,some (n,g)) :: l)=(aZ f n g (env.getD t .und)).bind fun r=>(resL env f l).map (r.v :: ·):=by
  simp only [resL,oQ]
  cases aZ f n g (env.getD t .und) <;> cases resL env f l <;> rfl
theorem one1_1 (x:AV):cI [x]=x:=rfl
theorem one1_2 (x y:AV) (l:List AV):cI (x :: y :: l)=.tup (x :: y :: l):=rfl
theorem one1_0:cI []=.tup []:=rfl
theorem aN {v:AV} {e:Ef} (h1:e=(v,[],[])) (hb:(m.map (·.1)).Nodup) (hp:v.pure=true) (h0:∀ p,p∈m→1≤p.1):gB 1 [] e v m b:=by
  subst h1
  have hs:=SubS.step (b0:=1) (dead:=1) (Z:=[]) (σ:=[]) (env:=[v]) (m:=m) (b:=b) (by simp only [stOk]; simp [hb]) rfl
  have hm:∀ (T:Tr) (l:AM),(∀ p,p∈l→1≤p.1)→stM 1 1 [] [] T l=[]:=by
    intro T l
    induction l with
    | nil=>intro _; rfl
    | cons p l ih =>
      intro h
      have h1:=h p (BH ..)
      obtain ⟨g,B⟩:=p
      simp only [stM]
      simp only [] at h1
      rw [if_neg (by simp),if_neg (by simp [lk]; omega)]
      exact ih fun q hq=>h q (AR _ hq)
  rw [hm _ m h0] at hs
  simp only [trs,AV.tr_pure _ v hp] at hs
  exact ⟨v,[],2,hs,by omega,rfl,rfl⟩
end

theorem aD (n:Int):sL .i64 n↔-9223372036854775808≤n∧n≤9223372036854775807:=Iff.rfl
theorem aR {n:Int} (h:-9223372036854775808≤n) (h2:n≤9223372036854775807):IntKind.wrap .i64 n=n:=by rw [IntKind.wrap_i64]; omega

section
variable {α:Type} {enc:α→List AV}
theorem bG (h:∀ x,pures (enc x)=true):∀ l:List α,puress (l.map enc)=true
  | []=>rfl
  | x :: l=>by simp only [BG,puress,h x,bG h l,DS]
theorem bT (T:Tr) (h:∀ x,pures (enc x)=true) (l:List α):trss T (l.map enc)=l.map enc:=fY T _ (bG h l)
theorem wK (l:List α) (i:Nat) (d:α) (h:i<l.length):(l.map enc).getD i []=enc (l.getD i d):=by
  simp [Zr,h]
end

section
variable {P:Program} {κ:Ef→Prop} {env:List AV} {m:AM} {b:Nat}
theorem dR {α:Type} {enc:α→List AV} {l:List α} {d:α} {sz:Nat} {f:Nat→Option Blk} {k:IntKind} {i:Int} (h:0≤i∧i<l.length) (hk:κ (.pv (enc (l.getD i.toNat d)),[],[])) :
    fP (cE f sz (.slv sz (l.map enc)) (.int k i)) κ:=by
  have h2:i.toNat<l.length:=by omega
  have h3:sz=sz∧0≤i∧i<(l.map enc).length:=⟨rfl,h.1,by simpa using h.2⟩
  have h4:cE f sz (.slv sz (l.map enc)) (.int k i)=some { v:=.pv (enc (l.getD i.toNat d)) }:=by
    unfold cE
    rw [← wK (enc:=enc) l i.toNat d h2]
    exact if_pos h3
  rw [h4]
  exact hk
theorem len_enc {α:Type} {enc:α→List AV} (f:Nat→Option Blk) (sz:Nat) (l:List α):dP f (.slv sz (l.map enc))=some { v:=.int .i64 l.length }:=by simp [dP]

def Bg (I:Nat→List AV→Prop) (n:Nat) (K:KX):KX
  | .normal,env,m,b=>(m.map (·.1)).Nodup∧(∀ p,p∈m→1≤p.1)∧∃ n',n'<n∧I n' (trs (stT 1 1 [] [] m) env)
  | .exit i,env,m,b=>K (.exit i) env m b
  | .ret,env,m,b=>K .ret env m b
theorem pD {env:List AV} {m:AM} {b:Nat} (hb:(m.map (·.1)).Nodup) (h0:∀ p,p∈m→1≤p.1):SubS 1 env m b (trs (stT 1 1 [] [] m) env) [] 2:=by
  have hs:=SubS.step (b0:=1) (dead:=1) (Z:=[]) (σ:=[]) (env:=env) (m:=m) (b:=b) (by simp only [stOk]; simp [hb]) rfl
  have hm:∀ (T:Tr) (l:AM),(∀ p,p∈l→1≤p.1)→stM 1 1 [] [] T l=[]:=by
    intro T l
    induction l with
    | nil=>intro _; rfl
    | cons p l ih =>
      intro h
      have h1:=h p (BH ..)
      obtain ⟨g,B⟩:=p
      simp only [stM]
      simp only [] at h1
      rw [if_neg (by simp),if_neg (by simp [lk]; omega)]
      exact ih fun q hq=>h q (AR _ hq)
  rw [hm _ m h0] at hs
  exact hs
theorem lQ {b0:Nat}:∀ {ac:ACode} {K K':KX} {env:List AV} {m:AM} {b:Nat},(∀ e env m b,K e env m b→K' e env m b)→vc P b0 ac K env m b→vc P b0 ac K' env m b:=by
  have pm : ∀ {op:AOp} {κ κ':Ef→Prop} {env:List AV} {m:AM} {b:Nat},(∀ e,κ e→κ' e)→dX P op κ env m b→dX P op κ' env m b:=by
    intro op κ κ' env m b h hv
    unfold dX at hv ⊢
    split at hv
    · obtain ⟨e,h1,h2⟩:=hv; exact ⟨e,h1,h _ h2⟩
    · unfold jQ at hv
      split at hv
      · rename_i heq
        obtain ⟨e,h1,h2⟩:=hv
        simp only [heq,jQ]
        exact ⟨e,h1,h _ h2⟩
      · exact hv.elim
    · unfold rO at hv
      split at hv
      · rename_i heq
        split at hv
        · rename_i hg
          obtain ⟨e,h1,h2⟩:=hv
          simp only [heq,rO,hg]
          exact ⟨e,h1,h _ h2⟩
        · exact hv.elim
      · exact hv.elim
    · rename_i hn1 hn2 hn3
      unfold fP at hv
      split at hv
      · rename_i r hr; rw [hr]; exact h _ hv
      · exact hv.elim
  have gm:∀ {g:Option (Nat×Bool)} {op:AOp} {κ κ':Ef→Prop} {env:List AV} {m:AM} {b:Nat},(∀ e,κ e→κ' e)→gK P g op κ env m b→gK P g op κ' env m b:=by
    intro g op κ κ' env m b h hv
    cases g with
    | none=>exact pm h hv
    | some p =>
      obtain ⟨s,w⟩:=p
      simp only [gK] at hv ⊢
      cases hx:env.getD s .und with
      | bool t =>
        rw [hx] at hv
        simp only [cU] at hv ⊢
        cases htw:(t == w) with
        | true=>rw [htw] at hv; exact pm h hv
        | false=>rw [htw] at hv; exact h _ hv
      | tup l =>
        rw [hx] at hv
        cases l with
        | nil=>exact h _ hv
        | cons x l=>exact hv.elim
      | _=>rw [hx] at hv; exact hv.elim
  have rm:∀ {ops:List AO} {k k':KE} {env:List AV} {m:AM} {b:Nat},(∀ env m b,k env m b→k' env m b)→kA P ops k env m b→kA P ops k' env m b:=by
    intro ops
    induction ops with
    | nil=>intro k k' env m b h hv; exact h _ _ _ hv
    | cons o rest ih =>
      intro k k' env m b h hv
      exact gm (fun e he=>ih h he) hv
  have tm:∀ {un:List (Nat×Nat)} {ops:List AO} {k k':KE} {tr:List Ef} {env:List AV} {m:AM} {b:Nat},(∀ env m b,k env m b→k' env m b)→jK P un ops k tr env m b→jK P un ops k' tr env m b:=by
    intro un ops
    induction ops with
    | nil=>intro k k' tr env m b h hv; exact ⟨hv.1,h _ _ _ hv.2⟩
    | cons o rest ih =>
      intro k k' tr env m b h hv
      exact gm (fun e he=>ih h he) hv
  intro ac
  induction ac with
  | skip=>intro K K' env m b h hv; exact h _ _ _ _ hv
  | ret=>intro K K' env m b h hv; exact h _ _ _ _ hv
  | exit i=>intro K K' env m b h hv; exact h _ _ _ _ hv
  | seq x y ihx ihy =>
    intro K K' env m b h hv
    refine ihx (fun e env m b he=>?_) hv
    cases e with
    | normal=>exact ihy h he
    | exit i=>exact h _ _ _ _ he
    | ret=>exact h _ _ _ _ he
  | block i x ih =>
    intro K K' env m b h hv
    refine ih (fun e env m b he=>?_) hv
    cases e with
    | normal=>exact h _ _ _ _ he
    | exit j =>
      simp only [gP] at he ⊢
      split
      · rename_i hj; rw [if_pos hj] at he; exact h _ _ _ _ he
      · rename_i hj; rw [if_neg hj] at he; exact h _ _ _ _ he
    | ret=>exact h _ _ _ _ he
  | cond q x y ihx ihy =>
    intro K K' env m b h hv
    simp only [vc] at hv ⊢
    cases hx:q.eval env with
    | bool t =>
      rw [hx] at hv
      cases t with
      | true=>exact ihx h hv
      | false=>exact ihy h hv
    | _=>rw [hx] at hv; exact hv.elim
  | loop x ih =>
    intro K K' env m b h hv
    obtain ⟨I,h1,h2⟩:=hv
    refine ⟨I,h1,fun n env m b hb hI=>ih (fun e env m b he=>?_) (h2 n env m b hb hI)⟩
    cases e with
    | normal=>exact he
    | exit i=>exact h _ _ _ _ he
    | ret=>exact h _ _ _ _ he
  | reg ops=>intro K K' env m b h hv; exact rm (fun env m b hk=>h _ _ _ _ hk) hv
  | regT ops un=>intro K K' env m b h hv; exact tm (fun env m b hk=>h _ _ _ _ hk) hv

theorem Ii {ac:ACode} {K:KX} (I:Nat→List AV→Prop) (hb:(m.map (·.1)).Nodup) (h0:∀ p,p∈m→1≤p.1) (hI:∃ n,I n (trs (stT 1 1 [] [] m) env)) (hr:∀ n env,I n env→vc P 1 ac (Bg I n K) env [] 2):LP 1 (vc P 1 ac) K env m b:=by
  obtain ⟨n,hn⟩:=hI
  refine ⟨fun n env m b=>m=[]∧b=2∧I n env,⟨n,_,[],2,pD hb h0,by omega,rfl,rfl,hn⟩,fun n env m b _ hI=>?_⟩
  obtain ⟨rfl,rfl,hI⟩:=hI
  refine lQ (fun e env m b he=>?_) (hr n env hI)
  cases e with
  | normal =>
    obtain ⟨q1,q2,n',q3,q4⟩:=he
    exact ⟨n',_,[],2,q3,pD q1 q2,by omega,rfl,rfl,q4⟩
  | exit i=>exact he
  | ret=>exact he
def Mt:List (Option AV)→List AV→Prop
  | [],[]=>True
  | some x :: p,y :: e=>y=x∧Mt p e
  | none :: p,_ :: e=>Mt p e
  | _,_=>False
def jO:List (Option AV)→(List AV→Prop)→Prop
  | [],Q=>Q []
  | some x :: p,Q=>jO p fun e=>Q (x :: e)
  | none :: p,Q=>∀ a,jO p fun e=>Q (a :: e)
theorem Mt.all:∀ {p:List (Option AV)} {Q:List AV→Prop} {e:List AV},jO p Q→Mt p e→Q e
  | [],Q,[],h,_=>h
  | some x :: p,Q,y :: e,h,hm=>by
    obtain ⟨rfl,hm⟩:=hm
    exact Mt.all (p:=p) (Q:=fun e=>Q (y :: e)) h hm
  | none :: p,Q,y :: e,h,hm=>Mt.all (p:=p) (Q:=fun e=>Q (y :: e)) (h y) hm
theorem mt_nil:Mt [] []=True:=rfl
theorem mt_some (x y:AV) (p:List (Option AV)) (e:List AV):Mt (some x :: p) (y :: e)=(y=x∧Mt p e):=rfl
theorem mt_none (y:AV) (p:List (Option AV)) (e:List AV):Mt (none :: p) (y :: e)=Mt p e:=rfl
theorem all_nil (Q:List AV→Prop):jO [] Q=Q []:=rfl
theorem dF (x:AV) (p:List (Option AV)) (Q:List AV→Prop):jO (some x :: p) Q=jO p fun e=>Q (x :: e):=rfl
theorem dE (p:List (Option AV)) (Q:List AV→Prop):jO (none :: p) Q=∀ a,jO p fun e=>Q (a :: e):=rfl
def RS {σ:Type} (pat:σ→List (Option AV)) (J:σ→Prop) (μ:σ→Nat) (s:σ) (env:List AV) (m:AM):Prop :=
  (m.map (·.1)).Nodup∧(∀ p,p∈m→1≤p.1)∧∃ s',μ s'<μ s∧J s'∧Mt (pat s') (trs (stT 1 1 [] [] m) env)
def sR {σ:Type} (pat:σ→List (Option AV)) (J:σ→Prop) (μ:σ→Nat) (s:σ) (K:KX):KX
  | .normal,env,m,b=>RS pat J μ s env m
  | .exit i,env,m,b=>K (.exit i) env m b
  | .ret,env,m,b=>K .ret env m b
theorem ls_normal {σ:Type} (pat:σ→List (Option AV)) (J:σ→Prop) (μ:σ→Nat) (s:σ) (K:KX):sR pat J μ s K .normal env m b=RS pat J μ s env m:=rfl
theorem ls_exit {σ:Type} (pat:σ→List (Option AV)) (J:σ→Prop) (μ:σ→Nat) (s:σ) (K:KX) (i:Nat):sR pat J μ s K (.exit i) env m b=K (.exit i) env m b:=rfl
theorem ls_ret {σ:Type} (pat:σ→List (Option AV)) (J:σ→Prop) (μ:σ→Nat) (s:σ) (K:KX):sR pat J μ s K .ret env m b=K .ret env m b:=rfl
theorem sZ {σ:Type} {pat:σ→List (Option AV)} {J:σ→Prop} {μ:σ→Nat} {s:σ} (s':σ) (h1:(m.map (·.1)).Nodup) (h2:∀ p,p∈m→1≤p.1) (h3:μ s'<μ s) (h4:J s') (h5:Mt (pat s') (trs (stT 1 1 [] [] m) env)):RS pat J μ s env m:=⟨h1,h2,s',h3,h4,h5⟩
theorem sS {σ:Type} {ac:ACode} {K:KX} (pat:σ→List (Option AV)) (J:σ→Prop) (μ:σ→Nat) (s0:σ) (hb:(m.map (·.1)).Nodup) (h0:∀ p,p∈m→1≤p.1) (hJ:J s0) (hM:Mt (pat s0) (trs (stT 1 1 [] [] m) env))
    (hr:∀ s,J s→jO (pat s) fun env=>vc P 1 ac (sR pat J μ s K) env [] 2):LP 1 (vc P 1 ac) K env m b:=by
  refine Ii (fun n env=>∃ s,n=μ s∧J s∧Mt (pat s) env) hb h0 ⟨_,s0,rfl,hJ,hM⟩ ?_
  rintro n env ⟨s,rfl,h1,h2⟩
  refine Mt.all (Q:=fun env=>vc P 1 ac (Bg _ (μ s) K) env [] 2) ?_ h2
  have gen:∀ (p:List (Option AV)) (Q Q':List AV→Prop),(∀ e,Q e→Q' e)→jO p Q→jO p Q':=by
    intro p
    induction p with
    | nil=>intro Q Q' h hq; exact h _ hq
    | cons x p ih =>
      intro Q Q' h hq
      cases x with
      | none=>exact fun a=>ih _ _ (fun e=>h _) (hq a)
      | some x=>exact ih _ _ (fun e=>h _) hq
  refine gen _ _ _ (fun env hv=>lQ (fun e env m b he=>?_) hv) (hr s h1)
  cases e with
  | normal =>
    obtain ⟨q1,q2,s',q3,q4,q5⟩:=he
    exact ⟨q1,q2,μ s',q3,s',rfl,q4,q5⟩
  | exit i=>exact he
  | ret=>exact he
theorem AC.p0 {f:FuncId} {args:List AV} {v:AV} (h:bO P f args (v,[],[])) (hb:1≤b) (hp:pures args=true) (hv:v.pure=true) (hκ:κ (v,[],[])):AC P f args m b κ:=by
  refine AC.pure (kz:=false) [] h hb rfl (aY _ _ hp) rfl (.inr (.inl rfl)) ?_
  show κ (v.tr _,[],[])
  rw [AV.tr_pure _ _ hv]
  exact hκ
theorem AC.pv {f:FuncId} {args args':List AV} {v:AV} (Z:List Nat) (h:bO P f args (v,[],[])) (hargs:trs (kB m.get [] 1 Z) args'=args) (hb:1≤b) (hz:cC m Z=true) (hf:v.flat=true) (hv:v.pure=true) (hκ:κ (v,[],Z)):AC P f args' m b κ:=by
  refine AC.pure (kz:=false) Z h hb hz hargs rfl (.inr (.inr ⟨hf,fun p hp=>by cases hp⟩)) ?_
  show κ (v.tr _,[],Z)
  rw [AV.tr_pure _ _ hv]
  exact hκ
theorem AC.pk {f:FuncId} {args args':List AV} {v:AV} (Z:List Nat) (h:bO P f args (v,[],[])) (hargs:trs (kB m.get [] 1 Z) args'=args) (hb:1≤b) (hz:cC m Z=true) (hv:v.pure=true) (hκ:κ (v,Z.map fun g=>(g,none),Z)):AC P f args' m b κ:=by
  refine AC.pure (kz:=true) Z h hb hz hargs rfl (.inl rfl) ?_
  simp only [eW,if_true,ED,BL,AV.tr_pure _ _ hv]
  exact hκ
def ACV (P:Program) (f:FuncId) (args:List AV) (Z:List Nat) (κ:Ef→Prop):Prop:=∃ v:AV,bO P f args (v,[],[])∧v.flat=true∧v.pure=true∧κ (v,[],Z)
def ACK (P:Program) (f:FuncId) (args:List AV) (Z:List Nat) (κ:Ef→Prop):Prop:=∃ v:AV,bO P f args (v,[],[])∧v.pure=true∧κ (v,Z.map fun g=>(g,none),Z)
theorem AC.view {f:FuncId} {args:List AV} (Z:List Nat) (hb:1≤b) (hz:cC m Z=true) (h:ACV P f (trs (kB m.get [] 1 Z) args) Z κ):AC P f args m b κ:=by
  obtain ⟨v,h1,h2,h3,h4⟩:=h
  exact AC.pv Z h1 rfl hb hz h2 h3 h4
theorem AC.viewAll {f:FuncId} {args:List AV} (hb:1≤b) (hz:cC m (m.map (·.1))=true) (h:ACV P f (trs (kB m.get [] 1 (m.map (·.1))) args) (m.map (·.1)) κ):AC P f args m b κ:=AC.view _ hb hz h
theorem ACV.of {f:FuncId} {args:List AV} {Z:List Nat} {v:AV} (h:bO P f args (v,[],[])) (hf:v.flat=true) (hv:v.pure=true) (hκ:κ (v,[],Z)):ACV P f args Z κ:=⟨v,h,hf,hv,hκ⟩
theorem ACK.of {f:FuncId} {args:List AV} {Z:List Nat} {v:AV} (h:bO P f args (v,[],[])) (hv:v.pure=true) (hκ:κ (v,Z.map fun g=>(g,none),Z)):ACK P f args Z κ:=⟨v,h,hv,hκ⟩
theorem zp_nil:cC m []=true:=rfl
theorem zp_cons (g:Nat) (Z:List Nat):cC m (g :: Z)=((match m.get g with | some b=>fU b | none=>true) && cC m Z):=rfl
theorem pb_rows (t sz:Nat) (rs:List (List AV)):fU (.rows t sz rs)=puress rs:=rfl
theorem aP {c:Prop} [Decidable c] {x:Option AV} (h:¬ c) (hk:pS x κ):pS (if c then none else x) κ:=by rw [if_neg h]; exact hk
theorem aU {c:Prop} [Decidable c] {x:Option AV} (h:c) (hk:pS x κ):pS (if c then x else none) κ:=by rw [if_pos h]; exact hk
theorem bE {c:Prop} [Decidable c] {x:Option OR} (h:c) (hk:fP x κ):fP (if c then x else none) κ:=by rw [if_pos h]; exact hk
theorem vwt_s (f:Nat→Option Blk) (Kn:List Nat) (B0:Nat) (Z:List Nat) (g l:Nat):(kB f Kn B0 Z).s g l=if Z.contains g then vwS f (B0 - 1) g l else .slm (if Kn.contains g then g else B0 - 1) l:=rfl
theorem vwt_p (f:Nat→Option Blk) (Kn:List Nat) (B0:Nat) (Z:List Nat) (g r o:Nat):(kB f Kn B0 Z).p g r o=if Z.contains g then vwP f (B0 - 1) g r o else .ptr (if Kn.contains g then g else B0 - 1) r o:=rfl
theorem vwt_m (f:Nat→Option Blk) (Kn:List Nat) (B0:Nat) (Z:List Nat) (g:Nat):(kB f Kn B0 Z).mp g=.mapm (if Z.contains g then B0 - 1 else if Kn.contains g then g else B0 - 1):=rfl
theorem stt_s (b0 d:Nat) (Z:List Nat) (ren:List (Nat×Nat)) (mm:AM) (g l:Nat):(stT b0 d Z ren mm).s g l=if Z.contains g then frzS d mm g l else .slm (nameT b0 d ren g) l:=rfl
theorem stt_p (b0 d:Nat) (Z:List Nat) (ren:List (Nat×Nat)) (mm:AM) (g r o:Nat):(stT b0 d Z ren mm).p g r o=if Z.contains g then frzP d mm g r o else .ptr (nameT b0 d ren g) r o:=rfl
theorem stt_m (b0 d:Nat) (Z:List Nat) (ren:List (Nat×Nat)) (mm:AM) (g:Nat):(stT b0 d Z ren mm).mp g=.mapm (if Z.contains g then d else nameT b0 d ren g):=rfl
end

theorem aJ:maxLen=9223372036854775807:=rfl
theorem cT {α:Type} {l:List α} {i:Nat} {d:α} (h:i<l.length):l.getD i d∈l:=by
  rw [Zr,Zz h]
  exact FT h
def aW (n:Int):List AV:=[.int .i64 n]
theorem pure_encI (n:Int):pures (aW n)=true:=rfl

def oG {α:Type} (p:α→Bool) (l:List α):Int:=match l.findIdx? p with
  | some i=>i
  | none=>-1
theorem dZ {α:Type} {p:α→Bool} {l:List α} {d:α} {i:Nat} (h1:i<l.length) (h2:∀ j,j<i→p (l.getD j d)=false) (h3:p (l.getD i d)=true):oG p l=i:=by
  have:l.findIdx? p=some i:=by
    rw [DE]
    refine ⟨h1,by simpa [Zr,h1] using h3,fun j hj=>?_⟩
    have:=h2 j hj
    have hjl:j<l.length:=by omega
    simpa [Zr,hjl] using this
  simp [oG,this]
theorem eS {α:Type} {p:α→Bool} {l:List α} {d:α} (h2:∀ j,j<l.length→p (l.getD j d)=false):oG p l=-1:=by
  have:l.findIdx? p=none:=by
    rw [EL]
    intro x hx
    obtain ⟨j,hj,rfl⟩:=List.getElem_of_mem hx
    have:=h2 j hj
    simpa [Zr,hj] using this
  simp [oG,this]
theorem aE {α:Type} {p:α→Bool} {l:List α}:decide (oG p l≥0)=l.any p:=by
  unfold oG
  cases h:l.findIdx? p with
  | none =>
    have:=EL.1 h
    symm
    simpa using this
  | some i =>
    obtain ⟨h1,h2,_⟩:=DE.1 h
    have:l.any p=true:=List.any_eq_true.2 ⟨_,FT h1,h2⟩
    rw [this]; simp
structure Word where
  h:Int
  t:Int
  m:Int
  deriving DecidableEq
def dY (w:Word):List AV:=[.int .i64 w.h,.int .i64 w.t,.int .i64 w.m]

def kN (w:Word):Int:=if (w.h=0∧w.t=0∧w.m=0)∨w.t≤w.h then 0 else if w.h<0∧w.t > 9223372036854775807+w.h then 9223372036854775807 else w.t - w.h
def oO (w:Word) (room:Int):Bool:=decide (kN w≥room)
def aS (n low high:Int):Bool:=decide (n≥low) && decide (n≤high)
def eX (w:Word) (room:Int):Bool:=aS w.t w.h 1099511627776 && decide (w.h≥0) && decide (kN w≤room) && aS w.m 0 2
def sW (p room:Int):Bool:=decide (p≥0) && decide (room≥1)
def mH (p room:Int):Int:=if sW p room then p.tmod room else 0

def iS (w:Word) (room:Int):Bool:=decide (w.m=2) || !eX w room
def kC (w:Word) (room:Int):Word×Int×Int :=
  if iS w room then (w,0,7) else if w.m=1 then (w,0,6) else if oO w room∨w.t=1099511627776 then (w,0,2) else (⟨w.h,w.t+1,w.m⟩,w.t,1)
def qV (w:Word) (room:Int):Word×Int×Int :=
  if iS w room then (w,0,7) else if kN w > 0 then (⟨w.h+1,w.t,w.m⟩,w.h,1) else if w.m=1 then (w,0,6) else (w,0,4)
def qS (w:Word) (room:Int):Int×Int:=((kC w room).2.2,(qV w room).2.2)
def dD (k:Int):Int:=if k=1∨k=2∨k=3 then 1 else if k=4∨k=5∨k=6 then 2 else if k=7∨k=8 then 3 else 0
def oL (k:Int):Bool:=decide (dD k > 0)
def oM (k:Int):Bool:=decide (k=3) || decide (k=6)
def oJ (x:Int):Bool:=decide (x<0) || decide (x≥16)

def lU:List Int→List Int→List Int
  | out,[]=>out
  | out,x :: xs=>lU (if out.any (fun y=>decide (x=y)) then out else out ++ [x]) xs
def oI (l:List Int):Bool:=!l.any oJ && decide ((lU [] l).length=l.length)
theorem iL (l out:List Int) (i:Nat) (h:i<l.length):lU out (l.drop i)=lU (if out.any (fun y=>decide (l.getD i default=y)) then out else out ++ [l.getD i default]) (l.drop (i+1)):=by
  rw [List.drop_eq_getElem_cons h,lU]
  simp [Zr,h]

structure Thread where
  st:Int
  kind:Int
  val:Int
  untl:Int
  pc:Int
  reg:Int
  seen:Int
  tries:Int
  late:Bool
  res:Int
  got:Int
  deriving DecidableEq
def bW (t:Thread):List AV:=[.int .i64 t.st,.int .i64 t.kind,.int .i64 t.val,.int .i64 t.untl,.int .i64 t.pc,.int .i64 t.reg,.int .i64 t.seen,.int .i64 t.tries,.bool t.late,.int .i64 t.res,.int .i64 t.got]
instance:Inhabited Thread:=⟨⟨0,0,0,0,0,0,0,0,false,0,0⟩⟩
theorem len_encT (t:Thread):(bW t).length=11:=rfl
theorem kV (t:Thread):(bW t).take 11=bW t:=rfl
theorem pure_encT (t:Thread):pures (bW t)=true:=rfl
def qJ (t:Thread):Thread:=⟨0,t.kind,t.val,t.untl,0,0,0,0,false,t.res,t.got⟩
def lG (t:Thread):Bool:=oL t.kind || (decide (t.kind=0) && decide (t.st=0))
def lH (t:Thread):Bool:=aS t.untl 0 1099511627776 && (oM t.kind || (decide (t.untl=0) && !t.late))
def gL (t:Thread):Bool:=aS t.pc 0 11 && aS t.tries 0 1099511627776 && aS t.reg 0 1099511627776 && aS t.seen (-1) 1099511627776
def bK (t:Thread):Bool:=aS t.st 0 2 && aS t.res 0 7 && lG t && lH t && gL t && (decide (t.st≠0) || decide (t=qJ t))
def qL (t:Thread):Int:=if t.st=0 then 121 else if t.st=2 then 122 else 0
def It (t:Thread):Thread:=if t.st=2 then { t with st:=1 } else t
structure Slot where
  stamp:Int
  val:Int
  deriving DecidableEq
instance:Inhabited Slot:=⟨⟨0,0⟩⟩
def dQ (s:Slot):List AV:=[.int .i64 s.stamp,.int .i64 s.val]
theorem len_encS (t:Slot):(dQ t).length=2:=rfl
theorem kU (t:Slot):(dQ t).take 2=dQ t:=rfl
theorem pure_encS (t:Slot):pures (dQ t)=true:=rfl
structure Entry where
  thr:Int
  kind:Int
  val:Int
  res:Int
  got:Int
  deriving DecidableEq
instance:Inhabited Entry:=⟨⟨0,0,0,0,0⟩⟩
def gW (e:Entry):List AV:=[.int .i64 e.thr,.int .i64 e.kind,.int .i64 e.val,.int .i64 e.res,.int .i64 e.got]
theorem pure_encE (t:Entry):pures (gW t)=true:=rfl
def kT (l:List Slot) (j:Nat):Bool:=decide (0≤(l.getD j default).stamp) && decide ((l.getD j default).stamp≤2199023255552) && decide (mH (l.getD j default).stamp l.length=j)
def dC (l:List Slot):Bool:=(BR l.length).all (kT l) && decide (l.length≥1) && decide (l.length≤64)
theorem xB {n:Nat} {p:Nat→Bool} (h:∀ j,j<n→p j=true):(BR n).all p=true:=AA.2 fun j hj=>h j (CB.1 hj)
theorem xA {n i:Nat} {p:Nat→Bool} (hi:i<n) (h:p i=false):(BR n).all p=false:=by
  cases hh:(BR n).all p with
  | false=>rfl
  | true=>have:=AA.1 hh i (CB.2 hi); rw [h] at this; cases this
structure Event where
  ep:Int
  ln:List Int
  deriving DecidableEq
instance:Inhabited Event:=⟨⟨0,[]⟩⟩
def iU (e:Event):List AV:=[.int .i64 e.ep,.slv 1 (e.ln.map aW)]
def kW (e:Event):Bool:=decide (e.ep≥0) && decide (e.ep≤1099511627776) && oI e.ln
section
variable {P:Program} {κ:Ef→Prop} {env:List AV} {m:AM} {b:Nat}

def RM {σ:Type} (b0 B:Nat) (pat:σ→List (Option AV)) (mem:σ→AM) (J:σ→Prop) (μ:σ→Nat) (s:σ) (env:List AV) (m:AM):Prop :=
  ∃ Z ren s',stOk b0 (B - 1) Z ren m=true∧cC m Z=true∧μ s'<μ s∧J s'∧stM b0 (B - 1) Z ren (stT b0 (B - 1) Z ren m) m=mem s'∧Mt (pat s') (trs (stT b0 (B - 1) Z ren m) env)
section
variable {σ:Type} {pat:σ→List (Option AV)} {mem:σ→AM} {J:σ→Prop} {μ:σ→Nat} {s:σ} {b0 B:Nat} {K:KX}
def sP (b0 B:Nat) (pat:σ→List (Option AV)) (mem:σ→AM) (J:σ→Prop) (μ:σ→Nat) (s:σ) (K:KX):KX
  | .normal,env,m,b=>RM b0 B pat mem J μ s env m
  | .exit i,env,m,b=>K (.exit i) env m b
  | .ret,env,m,b=>K .ret env m b
theorem bI:sP b0 B pat mem J μ s K .normal env m b=RM b0 B pat mem J μ s env m:=rfl
theorem cG (i:Nat):sP b0 B pat mem J μ s K (.exit i) env m b=K (.exit i) env m b:=rfl
theorem cV:sP b0 B pat mem J μ s K .ret env m b=K .ret env m b:=rfl
theorem fK (Z:List Nat) (ren:List (Nat×Nat)) (s':σ) (h1:stOk b0 (B - 1) Z ren m=true) (h2:cC m Z=true) (h3:μ s'<μ s) (h4:J s')
    (h5:stM b0 (B - 1) Z ren (stT b0 (B - 1) Z ren m) m=mem s') (h6:Mt (pat s') (trs (stT b0 (B - 1) Z ren m) env)):RM b0 B pat mem J μ s env m:=⟨Z,ren,s',h1,h2,h3,h4,h5,h6⟩
end
theorem pN {σ:Type} {ac:ACode} {K:KX} {b0:Nat} (B:Nat) (pat:σ→List (Option AV)) (mem:σ→AM) (J:σ→Prop) (μ:σ→Nat) (Z:List Nat) (ren:List (Nat×Nat)) (s0:σ) (hB:b0≤B∧1≤B) (h1:stOk b0 (B - 1) Z ren m=true) (h2:cC m Z=true) (h4:J s0)
    (h5:stM b0 (B - 1) Z ren (stT b0 (B - 1) Z ren m) m=mem s0) (h6:Mt (pat s0) (trs (stT b0 (B - 1) Z ren m) env))
    (hr:∀ s,J s→jO (pat s) fun env=>vc P b0 ac (sP b0 B pat mem J μ s K) env (mem s) B):LP b0 (vc P b0 ac) K env m b:=by
  have hBB:B - 1+1=B:=by omega
  refine ⟨fun n env m b=>b=B∧∃ s,n=μ s∧J s∧m=mem s∧Mt (pat s) env,⟨μ s0,_,mem s0,B,?_,hB.1,rfl,s0,rfl,h4,rfl,h6⟩,fun n env m b _ hI=>?_⟩
  · have:=SubS.step (env:=env) (b:=b) h1 h2
    rw [h5,hBB] at this
    exact this
  · obtain ⟨rfl,s,rfl,hJ,rfl,hM⟩:=hI
    refine Mt.all (Q:=fun env=>vc P b0 ac (Bf b0 _ (μ s) K) env (mem s) b) ?_ hM
    have gen:∀ (p:List (Option AV)) (Q Q':List AV→Prop),(∀ e,Q e→Q' e)→jO p Q→jO p Q':=by
      intro p
      induction p with
      | nil=>intro Q Q' h hq; exact h _ hq
      | cons x p ih =>
        intro Q Q' h hq
        cases x with
        | none=>exact fun a=>ih _ _ (fun e=>h _) (hq a)
        | some x=>exact ih _ _ (fun e=>h _) hq
    refine gen _ _ _ (fun env hv=>lQ (fun e env m b' he=>?_) hv) (hr s hJ)
    cases e with
    | normal =>
      obtain ⟨Z,ren,s',q1,q2,q3,q4,q5,q6⟩:=he
      refine ⟨μ s',_,mem s',b,q3,?_,hB.1,rfl,s',rfl,q4,rfl,q6⟩
      have:=SubS.step (env:=env) (b:=b') q1 q2
      rw [q5,hBB] at this
      exact this
    | exit i=>exact he
    | ret=>exact he

def Wk (x y:AV):Prop:=∀ c v,VR c x v→VR c y v
def Wks:List AV→List AV→Prop
  | [],[]=>True
  | x :: xs,y :: ys=>Wk x y∧(x.one=true→y.one=true)∧Wks xs ys
  | _,_=>False
theorem Wk.refl (x:AV):Wk x x:=fun _ _ h=>h
theorem Wk.nil (sz:Nat):Wk .slnil (.slv sz []):=fun _ _ h=>by cases h; exact .slv0 sz
theorem Wk.sle (sz:Nat):Wk (.sle sz) (.slv sz []):=fun _ _ h=>by cases h with | sle _ a cap hc=>exact .slve sz a cap hc
theorem Wks.at:∀ {xs ys:List AV},Wks xs ys→xs.length=ys.length∧∀ (i:Nat) (y:AV),ys[i]?=some y→∃ x,xs[i]?=some x∧Wk x y∧(x.one=true→y.one=true)
  | [],[],_=>⟨rfl,fun i y h=>by simp at h⟩
  | x :: xs,y :: ys,h=>by
    obtain ⟨h1,h2,h3⟩:=h
    obtain ⟨k1,k2⟩:=Wks.at h3
    refine ⟨by simp [k1],fun i z hi=>?_⟩
    cases i with
    | zero=>simp at hi; subst hi; exact ⟨x,rfl,h1,h2⟩
    | succ i=>simpa using k2 i z (by simpa using hi)
theorem Wk.agg {xs ys:List AV} (h:Wks xs ys):Wk (.agg xs) (.agg ys):=fun c v hv=>by
  obtain ⟨h1,h2⟩:=h.at
  cases hv with
  | agg _ vs k1 k2 k3 =>
    refine .agg ys vs (h1 ▸ k1) (fun i y hi=>?_) (fun i y hi=>?_) <;> obtain ⟨x,q1,q2,q3⟩:=h2 i y hi
    · exact q3 (k2 i x q1)
    · exact q2 _ _ (k3 i x q1)
theorem Wk.tup {xs ys:List AV} (h:Wks xs ys):Wk (.tup xs) (.tup ys):=fun c v hv=>by
  obtain ⟨h1,h2⟩:=h.at
  cases hv with
  | tup _ vs k1 k3 =>
    refine .tup ys vs (h1 ▸ k1) (fun i y hi=>?_)
    obtain ⟨x,q1,q2,q3⟩:=h2 i y hi
    exact q2 _ _ (k3 i x q1)
theorem SubS.weak {b0:Nat} {x y:AV} (h:Wk x y):SubS b0 [x] m b [y] m b:=fun c0 c ts _ hc hs hm hU he =>
  ⟨c,rfl,hc,hs,hm,hU,⟨by simpa using he.1,fun i z hi=>by
    cases i with
    | zero=>simp at hi; subst hi; exact h _ _ (he.2 0 x rfl)
    | succ i=>simp at hi⟩⟩

theorem sI {v:AV} {e:Ef} (Z:List Nat) (hb:(m.map (·.1)).Nodup) (h0:∀ p,p∈m→1≤p.1) (hZ:∀ g,g∈Z→1≤g) (hz:cC m Z=true) (h1:e.2=([],[])) (hw:Wk (v.tr (stT 1 1 Z [] m)) e.1):gB 1 [] e v m b:=by
  have hs:=SubS.step (b0:=1) (dead:=1) (Z:=Z) (σ:=[]) (env:=[v]) (m:=m) (b:=b) (by simp only [stOk]; simp [hb]; exact hZ) hz
  have hm:∀ (T:Tr) (l:AM),(∀ p,p∈l→1≤p.1)→stM 1 1 Z [] T l=[]:=by
    intro T l
    induction l with
    | nil=>intro _; rfl
    | cons p l ih =>
      intro h
      have h1:=h p (BH ..)
      obtain ⟨g,B⟩:=p
      simp only [stM]
      simp only [] at h1
      split
      · exact ih fun q hq=>h q (AR _ hq)
      · rw [if_neg (by simp [lk]; omega)]
        exact ih fun q hq=>h q (AR _ hq)
  rw [hm _ m h0] at hs
  refine ⟨e.1,[],2,hs.trans (SubS.weak hw),by omega,?_,rfl⟩
  rw [h1]
  rfl
theorem kR (f:Nat→Option Blk) (sz:Nat) (rows:List (List AV)):rowsOf f sz (.slv sz rows)=some (rows,[]):=by simp [rowsOf]
theorem fO (f:Nat→Option Blk) (sz g l t:Nat) (rs:List (List AV)) (h:f g=some (.rows t sz rs)) (hl:l≤rs.length):rowsOf f sz (.slm g l)=some (rs.take l,[g]):=by simp [rowsOf,h,hl]
theorem kZ {f:Nat→Option Blk} {g0 t sz bytes g len:Nat} {rs xs:List (List AV)} {rd:List Nat} {x:AV} (hx:rowsOf f sz x=some (xs,rd)) (hm:f g=some (.rows t sz rs)) (hl:len=rs.length) (hb:(rs.length+xs.length) * bytes≤140737488355328) (hm2:rs.length+xs.length≤9223372036854775807)
    (hk:κ (.slm g0 (rs.length+xs.length),[(g,none),(g0,some (.rows t sz (rs ++ xs)))],g :: rd)):fP (doApp f g0 t sz bytes (.slm g len) x) κ:=by
  have:doApp f g0 t sz bytes (.slm g len) x=some { v:=.slm g0 (rs.length+xs.length),ups:=[(g,none),(g0,some (.rows t sz (rs ++ xs)))],rd:=g :: rd }:=by
    simp only [doApp,hx,hm]
    rw [if_pos ⟨trivial,trivial,hl,hb,hm2⟩]
  rw [this]
  exact hk
theorem oA {f:Nat→Option Blk} {g0 t sz bytes:Nat} {xs:List (List AV)} {rd:List Nat} {x:AV} (hx:rowsOf f sz x=some (xs,rd)) (hb:xs.length * bytes≤140737488355328) (hm2:xs.length≤9223372036854775807) (hn:xs≠[])
    (hk:κ (.slm g0 xs.length,[(g0,some (.rows t sz xs))],rd)):fP (doApp f g0 t sz bytes .slnil x) κ:=by
  have:doApp f g0 t sz bytes .slnil x=some { v:=.slm g0 xs.length,ups:=[(g0,some (.rows t sz xs))],rd:=rd }:=by
    simp only [doApp,hx]
    rw [if_pos ⟨hb,hm2,hn⟩]
  rw [this]
  exact hk
theorem Wk.of_eq {x y:AV} (h:x=y):Wk x y:=h ▸ Wk.refl x
theorem Da:∀ {m:AM} (_:(m.map (·.1)).Nodup) (_:m.all (fun p=>fU p.2)=true),cC m (m.map (·.1))=true:=by
  intro m hn ha
  unfold cC
  rw [AA]
  intro g hg
  obtain ⟨⟨k,B⟩,h1,rfl⟩:=AG.1 hg
  rw [AM.get_of_mem hn h1]
  exact AA.1 ha (k,B) h1
theorem sH {v:AV} {e:Ef} (hb:(m.map (·.1)).Nodup) (h0:∀ p,p∈m→1≤p.1) (hz:m.all (fun p=>fU p.2)=true) (h1:e.2=([],[])) (hw:Wk (v.tr (stT 1 1 (m.map (·.1)) [] m)) e.1):gB 1 [] e v m b :=
  sI (m.map (·.1)) hb h0 (fun g hg=>by obtain ⟨p,hp,rfl⟩:=AG.1 hg; exact h0 p hp) (Da hb hz) h1 hw
theorem take_mapl {α β:Type} (f:α→β) (l:List α):(l.map f).take l.length=l.map f:=CS (by simp)
theorem vT {f:FuncId} {α:Type} {enc:α→List AV} {sz:Nat} {as:List AV} {e:Ef} (h:bO P f (.slv sz (([]:List α).map enc) :: as) e):bO P f (.slnil :: as) e:=by
  refine ⟨h.1,fun c hc hm hU vs hvs=>h.2 c hc hm hU vs ⟨by simpa using hvs.1,fun i x hi=>?_⟩⟩
  cases i with
  | zero=>simp at hi; subst hi; exact Wk.nil sz _ _ (hvs.2 0 _ rfl)
  | succ i=>exact hvs.2 (i+1) x (by simpa using hi)
theorem bP (T:Tr) (a c:List (List AV)):trss T (a ++ c)=trss T a ++ trss T c:=by simp [fX]
theorem AC.n1 {f:FuncId} {args:List AV} {v:AV} {B:Blk} (h:bO P f args (v,[(1,some B)],[])) (hb:1≤b) (hp:pures args=true) (hκ:κ (v.tr (mP 1 b),[(b,some (B.tr (mP 1 b)))],[])):AC P f args m b κ:=by
  refine AC.pure (kz:=false) [] h hb rfl (aY _ _ hp) rfl (.inr (.inl rfl)) ?_
  simpa [eW,oS,eD] using hκ
theorem iW (b:Nat) (l:Nat):(mP 1 b).s 1 l=.slm b l:=by simp [mP,eD]
theorem bt_rows (T:Tr) (t sz:Nat) (rs:List (List AV)):Blk.tr T (.rows t sz rs)=.rows t sz (trss T rs):=rfl
theorem AC.own {f:FuncId} {args:List AV} {e:Ef} (m0:AM) (B0:Nat) (h:yP P f args e m0.get B0) (h1:1≤B0) (hb:B0≤b) (hn:(m0.map (·.1)).Nodup) (h0:∀ p,p∈m0→p.1<B0 - 1∧m.get p.1=some p.2∧fU p.2=true)
    (hargs:trs (kB m.get (m0.map (·.1)) B0 []) args=args) (hups:∀ p,p∈e.2.1→p.1<B0∧(m0.get p.1).isSome=true∧∀ B,p.2=some B→fU B=true) (hv:e.1.pure=true)
    (hκ:κ (e.1,e.2.1,m0.map (·.1) ++ [])):AC P f args m b κ:=by
  have hpB:∀ (T:Tr) (B:Blk),fU B=true→B.tr T=B:=by
    intro T B hB
    cases B with
    | rows t sz rs=>simp only [Blk.tr,fY T rs hB]
    | mp es=>cases hB
  have hlt:∀ k,(m0.get k).isSome=true→k<B0 - 1:=by
    intro k hk
    obtain ⟨B,hB⟩:=Zx.1 hk
    exact (h0 (k,B) (AM.mem_of_get hB)).1
  have hupn:∀ k,k<B0 - 1→eD B0 b k=k:=fun k hk=>by unfold eD; rw [if_pos (by omega),if_neg (by omega)]
  refine ⟨_,fT (kz:=false) (Z:=[]) h h1 hb (fun n B hB=>⟨(h0 (n,B) (AM.mem_of_get hB)).1,(h0 (n,B) (AM.mem_of_get hB)).2.1⟩) (fun n=>⟨fun hm=>?_,fun hs=>?_⟩) (fun T _ n B hB=>hpB T B (h0 (n,B) (AM.mem_of_get hB)).2.2) (fun g hg=>by cases hg) hargs (fun p hp=>⟨by have:=(hups p hp).1; omega,fun _=>(hups p hp).2.1⟩) (.inr (.inl rfl)),?_⟩
  · obtain ⟨⟨k,B⟩,hk,rfl⟩:=AG.1 hm
    rw [AM.get_of_mem hn hk]; rfl
  · obtain ⟨B,hB⟩:=Zx.1 hs
    exact AG.2 ⟨(n,B),AM.mem_of_get hB,rfl⟩
  · have hmap:e.2.1.map (oS B0 b)=e.2.1:=by
      conv=>rhs; rw [← EN e.2.1]
      refine BP fun p hp=>?_
      obtain ⟨q1,q2,q3⟩:=hups p hp
      obtain ⟨k,o⟩:=p
      simp only [oS,id_eq,hupn k (hlt k q2)]
      cases o with
      | none=>rfl
      | some B=>simp only [BK,hpB _ B (q3 B rfl)]
    rw [AV.tr_pure _ _ hv,hmap]
    exact hκ
end

def ACode.lf:ACode→Bool
  | .loop _=>false
  | .seq x y=>x.lf && y.lf
  | .block _ x=>x.lf
  | .cond _ x y=>x.lf && y.lf
  | _=>true

mutual
/-- All its names are of a list. -/
def AV.inN (L:List Nat):AV→Bool
  | .ptr g _ _=>L.contains g
  | .slm g _=>L.contains g
  | .mapm g=>L.contains g
  | .pv cs=>eV L cs
  | .slv _ rows=>eK L rows
  | .fn _ a b=>eV L a && eV L b
  | .iface _ x=>x.inN L
  | .agg cs=>eV L cs
  | .tup cs=>eV L cs
  | .int _ _ | .bool _ | .str _ | .nilp | .slnil | .sle _ | .mapnil | .fnnil | .ifnil | .und=>true
def eV (L:List Nat):List AV→Bool
  | []=>true
  | x :: l=>x.inN L && eV L l
def eK (L:List Nat):List (List AV)→Bool
  | []=>true
  | x :: l=>eV L x && eK L l
end
def Tr.fixes (T:Tr) (g:Nat):Prop:=(∀ r o,T.p g r o=.ptr g r o)∧(∀ l,T.s g l=.slm g l)∧T.mp g=.mapm g
mutual
theorem AV.tr_inN {T:Tr} {L:List Nat} (hT:∀ g,g∈L→T.fixes g):∀ x:AV,x.inN L=true→x.tr T=x
  | .ptr g _ _,h=>(hT g (AH.1 h)).1 _ _
  | .slm g _,h=>(hT g (AH.1 h)).2.1 _
  | .mapm g,h=>(hT g (AH.1 h)).2.2
  | .pv cs,h=>by simp only [AV.inN] at h; simp only [AV.tr,dW hT cs h]
  | .slv _ rows,h=>by simp only [AV.inN] at h; simp only [AV.tr,mO hT rows h]
  | .fn _ a b,h=>by simp only [AV.inN,Zq] at h; simp only [AV.tr,dW hT a h.1,dW hT b h.2]
  | .iface _ x,h=>by simp only [AV.inN] at h; simp only [AV.tr,AV.tr_inN hT x h]
  | .agg cs,h=>by simp only [AV.inN] at h; simp only [AV.tr,dW hT cs h]
  | .tup cs,h=>by simp only [AV.inN] at h; simp only [AV.tr,dW hT cs h]
  | .int _ _,_ | .bool _,_ | .str _,_ | .nilp,_ | .slnil,_ | .sle _,_ | .mapnil,_ | .fnnil,_ | .ifnil,_ | .und,_=>rfl
theorem dW {T:Tr} {L:List Nat} (hT:∀ g,g∈L→T.fixes g):∀ l:List AV,eV L l=true→trs T l=l
  | [],_=>rfl
  | x :: l,h=>by simp only [eV,Zq] at h; simp only [trs,AV.tr_inN hT x h.1,dW hT l h.2]
theorem mO {T:Tr} {L:List Nat} (hT:∀ g,g∈L→T.fixes g):∀ l:List (List AV),eK L l=true→trss T l=l
  | [],_=>rfl
  | x :: l,h=>by simp only [eK,Zq] at h; simp only [trss,dW hT x h.1,mO hT l h.2]
end
mutual
theorem AV.inN_pure {L:List Nat}:∀ x:AV,x.pure=true→x.inN L=true
  | .ptr _ _ _,h | .slm _ _,h | .mapm _,h=>by simp [AV.pure] at h
  | .pv cs,h=>by simp only [AV.pure] at h; simp only [AV.inN,dI cs h]
  | .slv _ rows,h=>by simp only [AV.pure] at h; simp only [AV.inN,jE rows h]
  | .fn _ a b,h=>by simp only [AV.pure,Zq] at h; simp only [AV.inN,dI a h.1,dI b h.2,DS]
  | .iface _ x,h=>by simp only [AV.pure] at h; simp only [AV.inN,AV.inN_pure x h]
  | .agg cs,h=>by simp only [AV.pure] at h; simp only [AV.inN,dI cs h]
  | .tup cs,h=>by simp only [AV.pure] at h; simp only [AV.inN,dI cs h]
  | .int _ _,_ | .bool _,_ | .str _,_ | .nilp,_ | .slnil,_ | .sle _,_ | .mapnil,_ | .fnnil,_ | .ifnil,_ | .und,_=>rfl
theorem dI {L:List Nat}:∀ l:List AV,pures l=true→eV L l=true
  | [],_=>rfl
  | x :: l,h=>by simp only [pures,Zq] at h; simp only [eV,AV.inN_pure x h.1,dI l h.2,DS]
theorem jE {L:List Nat}:∀ l:List (List AV),puress l=true→eK L l=true
  | [],_=>rfl
  | x :: l,h=>by simp only [puress,Zq] at h; simp only [eK,dI x h.1,jE l h.2,DS]
end
def Blk.inN (L:List Nat):Blk→Bool
  | .rows _ _ rs=>eK L rs
  | .mp es=>es.all fun p=>p.1.inN L && p.2.inN L
theorem Blk.tr_inN {T:Tr} {L:List Nat} (hT:∀ g,g∈L→T.fixes g) {B:Blk} (h:B.inN L=true):B.tr T=B:=by
  cases B with
  | rows t sz rs=>simp only [Blk.inN] at h; simp only [Blk.tr,mO hT rs h]
  | mp es =>
    simp only [Blk.inN,AA,Zq] at h
    simp only [Blk.tr,Blk.mp.injEq]
    conv=>rhs; rw [← EN es]
    exact BP fun p hp=>by rw [AV.tr_inN hT _ (h p hp).1,AV.tr_inN hT _ (h p hp).2]; rfl

section
variable {P:Program} {κ:Ef→Prop} {env:List AV} {m:AM} {b:Nat}

theorem wJ {g:Option (Nat×Bool)} {op:AOp} (h:gK P g op κ env m b):∃ e,κ e∧∀ κ':Ef→Prop,κ' e→gK P g op κ' env m b:=by
  have pd : ∀ {κ:Ef→Prop},dX P op κ env m b→∃ e,κ e∧∀ κ':Ef→Prop,κ' e→dX P op κ' env m b:=by
    intro κ hv
    unfold dX at hv ⊢
    split at hv
    · obtain ⟨e,h1,h2⟩:=hv; exact ⟨e,h2,fun κ' hk=>⟨e,h1,hk⟩⟩
    · unfold jQ at hv
      split at hv
      · rename_i heq
        obtain ⟨e,h1,h2⟩:=hv
        refine ⟨e,h2,fun κ' hk=>?_⟩
        simp only [heq,jQ]
        exact ⟨e,h1,hk⟩
      · exact hv.elim
    · unfold rO at hv
      split at hv
      · rename_i heq
        split at hv
        · rename_i hg
          obtain ⟨e,h1,h2⟩:=hv
          refine ⟨e,h2,fun κ' hk=>?_⟩
          simp only [heq,rO,hg]
          exact ⟨e,h1,hk⟩
        · exact hv.elim
      · exact hv.elim
    · unfold fP at hv
      split at hv
      · rename_i r hr; exact ⟨_,hv,fun κ' hk=>by simp only [hr,fP]; exact hk⟩
      · exact hv.elim
  cases g with
  | none=>exact pd h
  | some p =>
    obtain ⟨s,w⟩:=p
    simp only [gK] at h ⊢
    cases hx:env.getD s .und with
    | bool t =>
      rw [hx] at h
      simp only [cU] at h ⊢
      cases htw:(t == w) with
      | true=>rw [htw] at h; exact pd h
      | false=>rw [htw] at h; exact ⟨_,h,fun κ' hk=>hk⟩
    | tup l =>
      rw [hx] at h
      cases l with
      | nil=>exact ⟨_,h,fun κ' hk=>hk⟩
      | cons x l=>exact h.elim
    | _=>rw [hx] at h; exact h.elim
theorem tD:∀ {xs:List AO} {k:KE} {env:List AV} {m:AM} {b:Nat},kA P xs k env m b→∃ env' m' b',k env' m' b'∧∀ k':KE,k' env' m' b'→kA P xs k' env m b
  | [],k,env,m,b,h=>⟨env,m,b,h,fun k' hk=>hk⟩
  | o :: rest,k,env,m,b,h=>by
    obtain ⟨e,h1,h2⟩:=wJ h
    obtain ⟨env',m',b',h3,h4⟩:=tD h1
    exact ⟨env',m',b',h3,fun k' hk=>h2 _ (h4 k' hk)⟩
theorem tE {un:List (Nat×Nat)}:∀ {xs:List AO} {k:KE} {tr:List Ef} {env:List AV} {m:AM} {b:Nat},jK P un xs k tr env m b→∃ env' m' b',k env' m' b'∧∀ k':KE,k' env' m' b'→jK P un xs k' tr env m b
  | [],k,tr,env,m,b,h=>⟨env,m,b,h.2,fun k' hk=>⟨h.1,hk⟩⟩
  | o :: rest,k,tr,env,m,b,h=>by
    obtain ⟨e,h1,h2⟩:=wJ h
    obtain ⟨env',m',b',h3,h4⟩:=tE h1
    exact ⟨env',m',b',h3,fun k' hk=>h2 _ (h4 k' hk)⟩
theorem xM {b0:Nat}:∀ {c:ACode},c.lf=true→∀ {K:KX} {env:List AV} {m:AM} {b:Nat},vc P b0 c K env m b→∃ x env' m' b',K x env' m' b'∧∀ K':KX,K' x env' m' b'→vc P b0 c K' env m b:=by
  intro c
  induction c with
  | skip=>intro _ K env m b h; exact ⟨.normal,env,m,b,h,fun K' hk=>hk⟩
  | ret=>intro _ K env m b h; exact ⟨.ret,env,m,b,h,fun K' hk=>hk⟩
  | exit i=>intro _ K env m b h; exact ⟨.exit i,env,m,b,h,fun K' hk=>hk⟩
  | seq x y ihx ihy =>
    intro hl K env m b h
    simp only [ACode.lf,Zq] at hl
    obtain ⟨e,env1,m1,b1,h1,h2⟩:=ihx hl.1 h
    cases e with
    | normal =>
      obtain ⟨e2,env2,m2,b2,h3,h4⟩:=ihy hl.2 h1
      exact ⟨e2,env2,m2,b2,h3,fun K' hk=>h2 _ (h4 K' hk)⟩
    | exit i=>exact ⟨.exit i,env1,m1,b1,h1,fun K' hk=>h2 _ hk⟩
    | ret=>exact ⟨.ret,env1,m1,b1,h1,fun K' hk=>h2 _ hk⟩
  | block i x ih =>
    intro hl K env m b h
    obtain ⟨e,env1,m1,b1,h1,h2⟩:=ih hl h
    cases e with
    | normal=>exact ⟨.normal,env1,m1,b1,h1,fun K' hk=>h2 _ hk⟩
    | exit j =>
      simp only [gP] at h1
      split at h1
      · rename_i hj
        exact ⟨.normal,env1,m1,b1,h1,fun K' hk=>h2 _ (by simp only [gP,if_pos hj]; exact hk)⟩
      · rename_i hj
        exact ⟨.exit j,env1,m1,b1,h1,fun K' hk=>h2 _ (by simp only [gP,if_neg hj]; exact hk)⟩
    | ret=>exact ⟨.ret,env1,m1,b1,h1,fun K' hk=>h2 _ hk⟩
  | cond q x y ihx ihy =>
    intro hl K env m b h
    simp only [ACode.lf,Zq] at hl
    simp only [vc] at h ⊢
    cases hx:q.eval env with
    | bool t =>
      rw [hx] at h
      cases t with
      | true=>exact ihx hl.1 h
      | false=>exact ihy hl.2 h
    | _=>rw [hx] at h; exact h.elim
  | loop x ih=>intro hl; simp [ACode.lf] at hl
  | reg ops =>
    intro _ K env m b h
    obtain ⟨env',m',b',h1,h2⟩:=tD h
    exact ⟨.normal,env',m',b',h1,fun K' hk=>h2 _ hk⟩
  | regT ops un =>
    intro _ K env m b h
    obtain ⟨env',m',b',h1,h2⟩:=tE h
    exact ⟨.normal,env',m',b',h1,fun K' hk=>h2 _ hk⟩

def inlOk (b:Nat) (m:AM) (Z:List Nat) (ren:List (Nat×Nat)) (v':AV) (m2:AM):Bool :=
  decide (m2.map (·.1)).Nodup && m2.all (fun p=>decide (p.1<b+15) && (decide (b≤p.1) || (m.map (·.1)).contains p.1) && p.2.inN (m2.map (·.1))) && v'.inN (m2.map (·.1))
def inlU (m m2:AM):List (Nat×Option Blk):=m.map (fun p=>(p.1,none)) ++ m2.map (fun p=>(p.1,some p.2))
def pI (b:Nat) (m:AM) (κ:Ef→Prop) (v:AV) (m':AM) (b':Nat):Prop:=∃ Z ren,stOk b (b+15) Z ren m'=true∧cC m' Z=true ∧
  inlOk b m Z ren (v.tr (stT b (b+15) Z ren m')) (stM b (b+15) Z ren (stT b (b+15) Z ren m') m')=true ∧
  κ (v.tr (stT b (b+15) Z ren m'),inlU m (stM b (b+15) Z ren (stT b (b+15) Z ren m') m'),m.map (·.1))
theorem mQ:∀ {m2:AM} {f:Nat→Option Blk},(m2.map (·.1)).Nodup→∀ n,ups f (m2.map fun p=>(p.1,some p.2)) n=(match m2.get n with | some B=>some B | none=>f n)
  | [],f,_,n=>rfl
  | (g,B) :: l,f,h,n=>by
    rw [BG,DC] at h
    simp only [BG,ups]
    rw [mQ h.2 n]
    simp only [BY]
    by_cases hn:n=g
    · subst hn
      rw [if_pos rfl]
      cases hl:BY l n with
      | none=>simp
      | some B'=>exact absurd (AG.2 ⟨(n,B'),AM.mem_of_get hl,rfl⟩) h.1
    · rw [if_neg hn]
      cases BY l n with
      | none=>simp [put,hn]
      | some B'=>rfl
theorem lC:∀ {m:AM} {n:Nat},n∉m.map (·.1)→m.get n=none:=by
  intro m n h
  cases hm:m.get n with
  | none=>rfl
  | some B=>exact absurd (AG.2 ⟨(n,B),AM.mem_of_get hm,rfl⟩) h
theorem pJ {m m2:AM} (h:(m2.map (·.1)).Nodup):m2.get=(m.upd (inlU m m2)).get:=by
  rw [DL]
  funext n
  unfold inlU
  rw [fC,mQ h]
  have:ups m.get (m.map fun p=>(p.1,none)) n=none:=by
    have:=jZ m.get (m.map (·.1)) n
    rw [List.map_map] at this
    rw [show (m.map fun p=>(p.1,(none:Option Blk)))=m.map ((fun g=>(g,(none:Option Blk)))∘fun x=>x.1) from rfl,this]
    split
    · rfl
    · rename_i hn; exact lC hn
  rw [this]
  cases m2.get n <;> rfl
theorem AC.inl {f:FuncId} {A:AFn} {args:List AV} (hmix:P.follows .mixedOrders=true) (hA:xf P f=some A) (hlf:A.code.lf=true) (hn:args.length≤A.n) (h1:1≤b) (hnd:(m.map (·.1)).Nodup) (h0:m.all (fun p=>decide (p.1<b - 1) && p.2.inN (m.map (·.1)))=true)
    (hargs:eV (m.map (·.1)) args=true) (h:vc P b A.code (dH A.res (pI b m κ)) (args ++ BZ (A.n - args.length) .und) m b):AC P f args m b κ:=by
  obtain ⟨x,env',m',b',hk,hall⟩:=xM hlf h
  have main:∀ l,resL env' m'.get A.res=some l→(∀ e,gB b m e (cI l) m' b'→dH A.res (gB b m e) x env' m' b')→pI b m κ (cI l) m' b'→AC P f args m b κ:=by
    rintro l hl hfin ⟨Z,ren,k1,k2,k3,k4⟩
    generalize hv':(cI l).tr (stT b (b+15) Z ren m')=v' at k3 k4
    generalize hm2:stM b (b+15) Z ren (stT b (b+15) Z ren m') m'=m2 at k3 k4
    simp only [inlOk,Zq,decide_eq_true_eq,AA] at k3
    obtain ⟨⟨q1,q2⟩,q3⟩:=k3
    have hs:=SubS.step (env:=[cI l]) (b:=b') k1 k2
    rw [hm2] at hs
    have hmcb:yP P f args (v',inlU m m2,[]) m.get b:=aG hmix hA hn fun _ _=>hall _ (hfin _ ⟨v',m2,b+16,by rw [← hv']; exact hs,AP _,pJ q1,rfl⟩)
    have hlt:∀ n B,m.get n=some B→n<b - 1:=fun n B hB=>by
      have:=AA.1 h0 _ (AM.mem_of_get hB)
      simp only [Zq,decide_eq_true_eq] at this
      exact this.1
    have hks:∀ n,n∈m.map (·.1)↔(m.get n).isSome=true:=fun n=>⟨fun hm=>by
      obtain ⟨⟨k,B⟩,hk,rfl⟩:=AG.1 hm
      rw [AM.get_of_mem hnd hk]; rfl,fun hs=>by
      obtain ⟨B,hB⟩:=Zx.1 hs
      exact AG.2 ⟨(n,B),AM.mem_of_get hB,rfl⟩⟩
    have fixU:∀ g,g∈m2.map (·.1)→eD b b g=g:=by
      intro g hg
      obtain ⟨p,hp,rfl⟩:=AG.1 hg
      have:=q2 p hp
      simp only [AZ,decide_eq_true_eq,AH] at this
      obtain ⟨⟨r1,r2⟩,_⟩:=this
      unfold eD
      by_cases hb:p.1<b
      · rcases r2 with r2 | r2
        · omega
        · obtain ⟨B,hB⟩:=Zx.1 ((hks _).1 r2)
          have:=hlt _ B hB
          rw [if_pos hb,if_neg (by omega)]
      · rw [if_neg hb,if_pos r1]; omega
    have hT:∀ g,g∈m2.map (·.1)→(mP b b).fixes g:=fun g hg=>⟨fun r o=>by show AV.ptr (eD b b g) r o=_; rw [fixU g hg],fun l=>by show AV.slm (eD b b g) l=_; rw [fixU g hg],by show AV.mapm (eD b b g)=_; rw [fixU g hg]⟩
    have hupsm:(inlU m m2).map (oS b b)=inlU m m2:=by
      conv=>rhs; rw [← EN (inlU m m2)]
      refine BP fun p hp=>?_
      unfold inlU at hp
      rcases BV.1 hp with hp | hp
      · obtain ⟨q,hq,rfl⟩:=AG.1 hp
        have:=hlt q.1 q.2 (AM.get_of_mem hnd hq)
        simp only [oS,id_eq,CU,Prod.mk.injEq,and_true]
        unfold eD
        rw [if_pos (by omega),if_neg (by omega)]
      · obtain ⟨q,hq,rfl⟩:=AG.1 hp
        have:=q2 q hq
        simp only [oS,id_eq,BK,fixU q.1 (AG.2 ⟨q,hq,rfl⟩)]
        rw [Blk.tr_inN hT this.2]
    have:=fT (kz:=false) (Z:=[]) (args':=args) (m:=m.get) hmcb h1 (AP b) (fun n B hB=>⟨hlt n B hB,hB⟩) hks (fun T hT' n B hB=>?_) (fun g hg=>by cases hg) ?_ (fun p hp=>?_) (.inr (.inl rfl))
    · refine ⟨_,this,?_⟩
      rw [AV.tr_inN hT _ q3]
      simp only [eW,BE,AK,if_false,hupsm,BL]
      exact k4
    · have hB':=AA.1 h0 _ (AM.mem_of_get hB)
      simp only [Zq] at hB'
      exact Blk.tr_inN (fun g hg=>hT' g ((hks g).1 hg)) hB'.2
    · refine dW (fun g hg=>?_) args hargs
      have hc:(m.map (·.1)).contains g=true:=AH.2 hg
      exact ⟨fun r o=>by simp only [kB,hc]; simp,fun l=>by simp only [kB,hc]; simp,by simp only [kB,hc]; simp⟩
    · unfold inlU at hp
      rcases BV.1 hp with hp | hp
      · obtain ⟨q,hq,rfl⟩:=AG.1 hp
        have hg:=AM.get_of_mem hnd hq
        have:=hlt q.1 q.2 hg
        exact ⟨by simp only []; omega,fun _=>by simp only [hg]; rfl⟩
      · obtain ⟨q,hq,rfl⟩:=AG.1 hp
        have:=q2 q hq
        simp only [AZ,decide_eq_true_eq,AH] at this
        refine ⟨this.1.1,fun hb=>?_⟩
        rcases this.1.2 with r | r
        · omega
        · exact (hks _).1 r
  cases x with
  | exit i=>exact hk.elim
  | normal =>
    cases hl:resL env' m'.get A.res with
    | none=>simp only [dH,hl,fE] at hk
    | some l=>exact main l hl (fun e he=>by simp only [dH,hl,fE]; exact he) (by simpa only [dH,hl,fE] using hk)
  | ret =>
    cases hl:resL env' m'.get A.res with
    | none=>simp only [dH,hl,fE] at hk
    | some l=>exact main l hl (fun e he=>by simp only [dH,hl,fE]; exact he) (by simpa only [dH,hl,fE] using hk)

end

mutual
/-- The names in a value. -/
def AV.nms:AV→List Nat
  | .ptr g _ _=>[g]
  | .slm g _=>[g]
  | .mapm g=>[g]
  | .pv cs=>eM cs
  | .slv _ rows=>iY rows
  | .fn _ a b=>eM a ++ eM b
  | .iface _ x=>x.nms
  | .agg cs=>eM cs
  | .tup cs=>eM cs
  | .int _ _ | .bool _ | .str _ | .nilp | .slnil | .sle _ | .mapnil | .fnnil | .ifnil | .und=>[]
def eM:List AV→List Nat
  | []=>[]
  | x :: l=>x.nms ++ eM l
def iY:List (List AV)→List Nat
  | []=>[]
  | x :: l=>eM x ++ iY l
end
mutual
theorem AV.nms_pure:∀ x:AV,x.pure=true→x.nms=[]
  | .ptr _ _ _,h | .slm _ _,h | .mapm _,h=>by simp [AV.pure] at h
  | .pv cs,h=>by simp only [AV.pure] at h; simp only [AV.nms,dJ cs h]
  | .slv _ rows,h=>by simp only [AV.pure] at h; simp only [AV.nms,jG rows h]
  | .fn _ a b,h=>by simp only [AV.pure,Zq] at h; simp only [AV.nms,dJ a h.1,dJ b h.2,BL]
  | .iface _ x,h=>by simp only [AV.pure] at h; simp only [AV.nms,AV.nms_pure x h]
  | .agg cs,h=>by simp only [AV.pure] at h; simp only [AV.nms,dJ cs h]
  | .tup cs,h=>by simp only [AV.pure] at h; simp only [AV.nms,dJ cs h]
  | .int _ _,_ | .bool _,_ | .str _,_ | .nilp,_ | .slnil,_ | .sle _,_ | .mapnil,_ | .fnnil,_ | .ifnil,_ | .und,_=>rfl
theorem dJ:∀ l:List AV,pures l=true→eM l=[]
  | [],_=>rfl
  | x :: l,h=>by simp only [pures,Zq] at h; simp only [eM,AV.nms_pure x h.1,dJ l h.2,BL]
theorem jG:∀ l:List (List AV),puress l=true→iY l=[]
  | [],_=>rfl
  | x :: l,h=>by simp only [puress,Zq] at h; simp only [iY,dJ x h.1,jG l h.2,BL]
end
def Blk.nms:Blk→List Nat
  | .rows _ _ rs=>iY rs
  | .mp es=>es.flatMap fun p=>p.1.nms ++ p.2.nms
def bS (b:Nat):List Nat→List Nat→List Nat
  | [],acc=>acc
  | g :: l,acc=>if b≤g then (if acc.contains g then bS b l acc else bS b l (acc ++ [g])) else bS b l acc
def pT (b:Nat):AM→List Nat
  | []=>[]
  | (g,B) :: l=>if g<b then B.nms ++ pT b l else pT b l
def uC:Nat→List Nat→List (Nat×Nat)
  | _,[]=>[]
  | k,g :: l=>(g,k) :: uC (k+1) l
def autoR (b:Nat) (v:AV) (m':AM):List (Nat×Nat):=uC b (bS b (v.nms ++ pT b m') [])
section
variable {P:Program} {κ:Ef→Prop} {m:AM} {b:Nat}
theorem wN {m':AM} {b':Nat} {v:AV} {ren:List (Nat×Nat)} (h0:autoR b v m'=ren) (h1:stOk b (b+15) [] ren m'=true)
    (h3:inlOk b m [] ren (v.tr (stT b (b+15) [] ren m')) (stM b (b+15) [] ren (stT b (b+15) [] ren m') m')=true)
    (h4:κ (v.tr (stT b (b+15) [] ren m'),inlU m (stM b (b+15) [] ren (stT b (b+15) [] ren m') m'),m.map (·.1))):pI b m κ v m' b':=⟨[],ren,h1,rfl,h3,h4⟩
theorem Ce {α:Type} {enc:α→List AV} {l:List α} {d:α} {f:Nat→Option Blk} {g i o n t sz:Nat} {ag:Bool} (hm:f g=some (.rows t sz (l.map enc))) (hi:i<l.length)
    (hk:fP ((part o n ag (enc (l.getD i d))).map fun v=>{ v:=v,rd:=[g] }) κ):fP (aZ f n ag (.ptr g i o)) κ:=by
  have:(l.map enc)[i]?=some (enc (l.getD i d)):=by simp [hi]
  simp only [aZ,hm,this]
  exact hk
theorem xK {α:Type} {enc:α→List AV} {l:List α} {d:α} {f:Nat→Option Blk} {g i o n t sz:Nat} {v:AV} {y:α} (hm:f g=some (.rows t sz (l.map enc))) (hi:i<l.length) (hn:v.cells.length=n) (ho:o+n≤(enc (l.getD i d)).length)
    (h1:v.cells.all AV.one=true) (hy:aF (enc (l.getD i d)) o v.cells=enc y) (hk:κ (.und,[(g,some (.rows t sz ((l.set i y).map enc)))],[g])):fP (bJ f n (.ptr g i o) v) κ:=by
  have:(l.map enc)[i]?=some (enc (l.getD i d)):=by simp [hi]
  simp only [bJ,hm,this]
  rw [if_pos ⟨hn,ho,h1⟩,hy,← List.map_set]
  exact hk
theorem Hv {f:Nat→Option Blk} {sz g len t:Nat} {s:AV} {rs xs:List (List AV)} {rd:List Nat} (hx:rowsOf f sz s=some (xs,rd)) (hm:f g=some (.rows t sz rs)) (hl:len=rs.length) (hxl:xs.length=len) (hg:g∉rd)
    (hk:κ (.int .i64 len,[(g,some (.rows t sz xs))],g :: rd)):fP (jU f sz (.slm g len) s) κ:=by
  have:jU f sz (.slm g len) s=some { v:=.int .i64 len,ups:=[(g,some (.rows t sz xs))],rd:=g :: rd }:=by
    simp only [jU,hx,hm]
    rw [if_pos ⟨trivial,hl,hg⟩]
    rw [hxl,Int.min_self,CS (by omega),List.drop_eq_nil_of_le (by omega),BL]
  rw [this]
  exact hk
end
theorem iK {α:Type} {enc:α→List AV} (h:∀ x,pures (enc x)=true) (L:List Nat) (l:List α):eK L (l.map enc)=true:=jE _ (bG h l)
theorem iO {α:Type} {enc:α→List AV} (h:∀ x,pures (enc x)=true) (l:List α):iY (l.map enc)=[]:=jG _ (bG h l)
theorem ix_rows (L:List Nat) (t sz:Nat) (rs:List (List AV)):Blk.inN L (.rows t sz rs)=eK L rs:=rfl
theorem nm_rows (t sz:Nat) (rs:List (List AV)):Blk.nms (.rows t sz rs)=iY rs:=rfl
theorem inss_cons (L:List Nat) (x:List AV) (l:List (List AV)):eK L (x :: l)=(eV L x && eK L l):=rfl
theorem inss_nil (L:List Nat):eK L []=true:=rfl
theorem nmss_cons (x:List AV) (l:List (List AV)):iY (x :: l)=eM x ++ iY l:=rfl
theorem nmss_nil:iY []=[]:=rfl
theorem ins_cons (L:List Nat) (x:AV) (l:List AV):eV L (x :: l)=(x.inN L && eV L l):=rfl
theorem ins_nil (L:List Nat):eV L []=true:=rfl
theorem nms_cons (x:AV) (l:List AV):eM (x :: l)=x.nms ++ eM l:=rfl
theorem nms_nil:eM []=[]:=rfl
theorem pk_nil (b:Nat) (acc:List Nat):bS b [] acc=acc:=rfl
theorem pk_cons (b g:Nat) (l acc:List Nat):bS b (g :: l) acc=if b≤g then (if acc.contains g then bS b l acc else bS b l (acc ++ [g])) else bS b l acc:=rfl
theorem on_nil (b:Nat):pT b []=[]:=rfl
theorem on_cons (b g:Nat) (B:Blk) (l:AM):pT b ((g,B) :: l)=if g<b then B.nms ++ pT b l else pT b l:=rfl
theorem nn_nil (k:Nat):uC k []=[]:=rfl
theorem nn_cons (k g:Nat) (l:List Nat):uC k (g :: l)=(g,k) :: uC (k+1) l:=rfl
section
variable {P:Program} {κ:Ef→Prop} {m:AM} {b:Nat}
theorem Cb {f:Nat→Option Blk} {g len t sz:Nat} {rs:List (List AV)} {k:IntKind} {i:Int} (hm:f g=some (.rows t sz rs)) (hi:0≤i∧i<len) (hk:κ (.ptr g i.toNat 0,[],[g])):fP (cE f sz (.slm g len) (.int k i)) κ:=by
  have:cE f sz (.slm g len) (.int k i)=some { v:=.ptr g i.toNat 0,rd:=[g] }:=by
    simp only [cE,hm]
    rw [if_pos ⟨trivial,hi⟩]
  rw [this]
  exact hk
end
theorem cK (f:Nat→Option Blk) (n:Nat) (ag:Bool) (g o:Nat):aZ f n ag (.ptr g 0 o)=(match f g with | some (.rows _ _ (r :: _))=>(part o n ag r).map fun v=>{ v:=v,rd:=[g] } | _=>none):=by
  simp only [aZ]
  cases f g with
  | none=>rfl
  | some B =>
    cases B with
    | mp es=>rfl
    | rows t sz rs=>cases rs <;> rfl
theorem bC (f:Nat→Option Blk) (n:Nat) (ag:Bool) (cells:List AV):aZ f n ag (.pv cells)=(part 0 n ag cells).map fun v=>{ v:=v }:=rfl
theorem cM (f:Nat→Option Blk) (n g o:Nat) (v:AV):bJ f n (.ptr g 0 o) v=(match f g with | some (.rows t sz (r :: rs))=>if v.cells.length=n∧o+n≤r.length∧v.cells.all AV.one then some { v:=.und,ups:=[(g,some (.rows t sz (aF r o v.cells :: rs)))],rd:=[g] } else none | _=>none):=by
  simp only [bJ]
  cases f g with
  | none=>rfl
  | some B =>
    cases B with
    | mp es=>rfl
    | rows t sz rs=>cases rs <;> rfl
theorem take_maps {α β:Type} (enc:α→β) (l:List α) (i:Nat) (y:α):((l.set i y).map enc).take l.length=(l.set i y).map enc:=CS (by simp)
section
variable {P:Program} {κ:Ef→Prop} {m:AM} {b:Nat}
theorem AC.own1 {f:FuncId} {args:List AV} {v:AV} {g:Nat} {B B':Blk} {rd:List Nat} (h:yP P f args (v,[(g,some B')],rd) (AM.get [(g,B)]) b) (h1:1≤b) (hg:g<b - 1) (hm:m.get g=some B) (hB:fU B=true) (hB':fU B'=true)
    (hargs:eV [g] args=true) (hv:v.inN [g]=true) (hκ:κ (v,[(g,some B')],[g])):AC P f args m b κ:=by
  have hpB:∀ (T:Tr) (B:Blk),fU B=true→B.tr T=B:=by
    intro T B hB
    cases B with
    | rows t sz rs=>simp only [Blk.tr,fY T rs hB]
    | mp es=>cases hB
  have hget:∀ n,BY [(g,B)] n=if n=g then some B else none:=fun n=>rfl
  have hup:eD b b g=g:=by unfold eD; rw [if_pos (by omega),if_neg (by omega)]
  have hfix:∀ k,k∈[g]→(mP b b).fixes k:=fun k hk=>by
    have:k=g:=by simpa using hk
    subst this
    exact ⟨fun r o=>by show AV.ptr (eD b b k) r o=_; rw [hup],fun l=>by show AV.slm (eD b b k) l=_; rw [hup],by show AV.mapm (eD b b k)=_; rw [hup]⟩
  refine ⟨_,fT (kz:=false) (Z:=[]) (args':=args) (m:=m.get) (m0:=[(g,B)]) h h1 (AP b) (fun n C hC=>?_) (fun n=>?_) (fun T _ n C hC=>?_) (fun k hk=>by cases hk) ?_ (fun p hp=>?_) (.inr (.inl rfl)),?_⟩
  · rw [hget] at hC
    split at hC
    · rename_i e; subst e; cases hC; exact ⟨hg,hm⟩
    · cases hC
  · rw [hget]
    by_cases e:n=g <;> simp [e]
  · rw [hget] at hC
    split at hC
    · cases hC; exact hpB T _ hB
    · cases hC
  · refine dW (L:=[g]) (fun k hk=>?_) args hargs
    have:k=g:=by simpa using hk
    subst this
    exact ⟨fun r o=>by simp [kB],fun l=>by simp [kB],by simp [kB]⟩
  · have:p=(g,some B'):=by simpa using hp
    subst this
    exact ⟨by simp only []; omega,fun _=>by simp only [hget]; simp⟩
  · rw [AV.tr_inN hfix v hv]
    simp only [eW,AK,if_false,BE,BG,ED,oS,hup,BK,hpB _ B' hB',BL]
    exact hκ
end
section
variable {P:Program} {env:List AV} {m:AM} {b:Nat}
def Ar (b0:Nat) (U:KE) (K:KX):KX
  | .normal,env,m,b=>b0≤b∧U env m b
  | .exit i,env,m,b=>K (.exit i) env m b
  | .ret,env,m,b=>K .ret env m b
def rZ (P:Program) (b0:Nat) (ac:ACode) (K:KX):Nat→KE
  | 0,_,_,_=>False
  | k+1,env,m,b=>vc P b0 ac (Ar b0 (rZ P b0 ac K k) K) env m b
theorem nH {b0:Nat} {ac:ACode} {K:KX} (k:Nat) (hb:b0≤b) (h:rZ P b0 ac K k env m b):LP b0 (vc P b0 ac) K env m b:=by
  refine ⟨fun n env m b=>rZ P b0 ac K n env m b,⟨k,env,m,b,SubS.refl _ _ _ _,hb,h⟩,fun n env m b _ hI=>?_⟩
  cases n with
  | zero=>exact hI.elim
  | succ n =>
    refine lQ (fun e env' m' b' he=>?_) hI
    cases e with
    | normal=>exact ⟨n,env',m',b',Nat.lt_succ_self n,SubS.refl _ _ _ _,he.1,he.2⟩
    | exit i=>exact he
    | ret=>exact he
theorem un_1 {b0:Nat} {ac:ACode} {K:KX}:rZ P b0 ac K 1 env m b=vc P b0 ac (Ar b0 (rZ P b0 ac K 0) K) env m b:=rfl
theorem un_2 {b0:Nat} {ac:ACode} {K:KX}:rZ P b0 ac K 2 env m b=vc P b0 ac (Ar b0 (rZ P b0 ac K 1) K) env m b:=rfl
theorem un_3 {b0:Nat} {ac:ACode} {K:KX}:rZ P b0 ac K 3 env m b=vc P b0 ac (Ar b0 (rZ P b0 ac K 2) K) env m b:=rfl
theorem un_normal (b0:Nat) (U:KE) (K:KX):Ar b0 U K .normal env m b=(b0≤b∧U env m b):=rfl
theorem un_exit (b0:Nat) (U:KE) (K:KX) (i:Nat):Ar b0 U K (.exit i) env m b=K (.exit i) env m b:=rfl
theorem un_ret (b0:Nat) (U:KE) (K:KX):Ar b0 U K .ret env m b=K .ret env m b:=rfl
end
section
variable {P:Program} {κ:Ef→Prop}
theorem len_nil (f:Nat→Option Blk):dP f .slnil=some { v:=.int .i64 0 }:=rfl
theorem Ae {f:Nat→Option Blk} {g len t sz:Nat} {rs:List (List AV)} (hm:f g=some (.rows t sz rs)) (hl:len≤rs.length) (hk:κ (.int .i64 len,[],[g])):fP (dP f (.slm g len)) κ:=by
  have:dP f (.slm g len)=some { v:=.int .i64 len,rd:=[g] }:=by
    simp only [dP,hm]
    rw [if_pos hl]
  rw [this]
  exact hk
theorem len_slv (f:Nat→Option Blk) (sz:Nat) (rows:List (List AV)):dP f (.slv sz rows)=some { v:=.int .i64 rows.length }:=rfl
end
theorem sJ {m:AM} {b:Nat} {v:AV} {e:Ef} {Z:List Nat} (hZ:bS 1 v.nms []=Z) (hb:(m.map (·.1)).Nodup) (h0:m.all (fun p=>decide (1≤p.1))=true) (hZ1:Z.all (fun g=>decide (1≤g))=true) (hz:cC m Z=true) (h1:e.2=([],[])) (hw:Wk (v.tr (stT 1 1 Z [] m)) e.1):gB 1 [] e v m b :=
  sI Z hb (fun p hp=>by simpa using AA.1 h0 p hp) (fun g hg=>by simpa using AA.1 hZ1 g hg) hz h1 hw

structure Config where
  lg:Int
  th:Int
  pol:Int
  wt:Int
  spin:Int
  yld:Int
  single:Bool
  deriving DecidableEq
structure State where
  cfg:Config
  word:Word
  slots:List Slot
  sends:List Int
  recvs:List Int
  full:Event
  empty:Event
  now:Int
  threads:List Thread
  log:List Entry
  deriving DecidableEq
def tT (c:Config):List AV:=[.int .i64 c.lg,.int .i64 c.th,.int .i64 c.pol,.int .i64 c.wt,.int .i64 c.spin,.int .i64 c.yld,.bool c.single]
def Ic (s:State) (T L:AV):List AV:=[.int .i64 s.cfg.lg,.int .i64 s.cfg.th,.int .i64 s.cfg.pol,.int .i64 s.cfg.wt,.int .i64 s.cfg.spin,.int .i64 s.cfg.yld,.bool s.cfg.single,
  .int .i64 s.word.h,.int .i64 s.word.t,.int .i64 s.word.m,.slv 2 (s.slots.map dQ),.slv 1 (s.sends.map aW),.slv 1 (s.recvs.map aW),.int .i64 s.full.ep,.slv 1 (s.full.ln.map aW),.int .i64 s.empty.ep,.slv 1 (s.empty.ln.map aW),.int .i64 s.now,T,L]
def bQ (s:State):List AV:=Ic s (.slv 11 (s.threads.map bW)) (.slv 5 (s.log.map gW))
def aM (wt:Int):Int:=if wt=2 then 8 else 0
def bD (c:Config):Bool:=aS c.lg 1 6 && aS c.th 1 16 && aS c.pol 0 2 && aS c.wt 0 3 && aS c.spin 0 (aM c.wt) && aS c.yld 0 (aM c.wt)
def bV (c:Config):Int:=if bD c then 0 else 20
def cP (c:Config):Int:=if bD c then 2 ^ c.lg.toNat else 0
def cN (threads:Int) (l:List Int):Bool:=oI l && !l.any (fun id=>decide (id<0) || decide (id≥threads))
def eJ (s:State):Bool :=
  decide (cP s.cfg≠0) && eX s.word (cP s.cfg) && decide ((s.slots.length:Int)=cP s.cfg) && dC s.slots &&
  cN s.cfg.th s.sends && cN s.cfg.th s.recvs && cN s.cfg.th s.full.ln && cN s.cfg.th s.empty.ln && kW s.full && kW s.empty &&
  decide (s.now≥0) && decide (s.now≤1099511627776) && decide ((s.threads.length:Int)=s.cfg.th) && !s.threads.any (fun t=>!bK t)
def wH (s:State) (id:Int):Bool:=eJ s && decide (id≥0) && decide (id<s.threads.length)
def me (s:State) (id:Int):Thread:=s.threads.getD id.toNat default
def iV (s:State) (id:Int) (t:Thread):State:=⟨s.cfg,s.word,s.slots,s.sends,s.recvs,s.full,s.empty,s.now,s.threads.set id.toNat t,s.log⟩
def Aa (s:State) (id:Int):State:=if wH s id then iV s id (It (me s id)) else s
def logged (s:State) (e:Entry):State:=⟨s.cfg,s.word,s.slots,s.sends,s.recvs,s.full,s.empty,s.now,s.threads,s.log ++ [e]⟩
def xJ (t:Thread) (pc:Int):Thread:=⟨t.st,t.kind,t.val,t.untl,pc,t.reg,t.seen,t.tries,t.late,t.res,t.got⟩
def rU (t:Thread) (reg:Int):Thread:=⟨t.st,t.kind,t.val,t.untl,t.pc,reg,t.seen,t.tries,t.late,t.res,t.got⟩
def oR (t:Thread) (seen:Int):Thread:=⟨t.st,t.kind,t.val,t.untl,t.pc,t.reg,seen,t.tries,t.late,t.res,t.got⟩
def mN (t:Thread) (tries:Int):Thread:=⟨t.st,t.kind,t.val,t.untl,t.pc,t.reg,t.seen,tries,t.late,t.res,t.got⟩
def xQ (s:State) (w:Word):State:=⟨s.cfg,w,s.slots,s.sends,s.recvs,s.full,s.empty,s.now,s.threads,s.log⟩
def iT (s:State) (l:List Slot):State:=⟨s.cfg,s.word,l,s.sends,s.recvs,s.full,s.empty,s.now,s.threads,s.log⟩
def kX (s:State) (l:List Int):State:=⟨s.cfg,s.word,s.slots,l,s.recvs,s.full,s.empty,s.now,s.threads,s.log⟩
def uQ (s:State) (l:List Int):State:=⟨s.cfg,s.word,s.slots,s.sends,l,s.full,s.empty,s.now,s.threads,s.log⟩
def xP (s:State) (e:Event):State:=⟨s.cfg,s.word,s.slots,s.sends,s.recvs,e,s.empty,s.now,s.threads,s.log⟩
def uP (s:State) (e:Event):State:=⟨s.cfg,s.word,s.slots,s.sends,s.recvs,s.full,e,s.now,s.threads,s.log⟩
def Uu (s:State) (id pc:Int):State:=iV s id (xJ (me s id) pc)
def Uv (s:State) (id:Int):State:=iV s id (mN (me s id) (min ((me s id).tries+1) 1099511627776))
set_option linter.unusedSimpArgs false
def eN (M:AM):List Nat→AM
  | []=>[]
  | g :: l=>match M.get g with
    | some B=>(g,B) :: eN M l
    | none=>eN M l
def gY (M:AM):List Nat→List Nat
  | []=>[]
  | g :: l=>match M.get g with
    | some B=>B.nms ++ gY M l
    | none=>gY M l
def grow1 (M:AM) (l:List Nat):List Nat:=bS 1 (gY M l) l
def reachM (M:AM) (l:List Nat):List Nat:=grow1 M (grow1 M l)
theorem kQ:∀ {M:AM} {l:List Nat} {p:Nat×Blk},p∈eN M l→M.get p.1=some p.2
  | M,[],p,h=>by cases h
  | M, g :: l,p,h=>by
    simp only [eN] at h
    split at h
    · rename_i B hB
      rcases BN.1 h with rfl | h
      · exact hB
      · exact kQ h
    · exact kQ h
theorem nN {M m:AM} {l:List Nat} (h:eN M l=m) {p:Nat×Blk} (hp:p∈m):M.get p.1=some p.2:=kQ (h ▸ hp)
section
variable {P:Program} {κ:Ef→Prop} {m:AM} {b:Nat}
theorem AC.inlD {M:AM} {f:FuncId} {A:AFn} {args:List AV} (hmix:P.follows .mixedOrders=true) (hA:xf P f=some A) (hn:args.length≤A.n) (h1:1≤b) (hM:eN M (reachM M (bS 1 (eM args) []))=m) (hnd:(m.map (·.1)).Nodup) (h0:m.all (fun p=>decide (p.1<b - 1) && p.2.inN (m.map (·.1)))=true)
    (hargs:eV (m.map (·.1)) args=true) (h:∃ l m' b',pI b m κ (cI l) m' b'∧∀ e,gB b m e (cI l) m' b'→vc P b A.code (dH A.res (gB b m e)) (args ++ BZ (A.n - args.length) .und) m b):AC P f args M b κ:=by
  obtain ⟨l,m',b',⟨Z,ren,k1,k2,k3,k4⟩,hall⟩:=h
  generalize hv':(cI l).tr (stT b (b+15) Z ren m')=v' at k3 k4
  generalize hm2:stM b (b+15) Z ren (stT b (b+15) Z ren m') m'=m2 at k3 k4
  simp only [inlOk,Zq,decide_eq_true_eq,AA] at k3
  obtain ⟨⟨q1,q2⟩,q3⟩:=k3
  have hs:=SubS.step (env:=[cI l]) (b:=b') k1 k2
  rw [hm2] at hs
  have hmcb:yP P f args (v',inlU m m2,[]) m.get b:=aG hmix hA hn fun _ _=>hall _ ⟨v',m2,b+16,by rw [← hv']; exact hs,AP _,pJ q1,rfl⟩
  have hlt:∀ n B,m.get n=some B→n<b - 1:=fun n B hB=>by
    have:=AA.1 h0 _ (AM.mem_of_get hB)
    simp only [Zq,decide_eq_true_eq] at this
    exact this.1
  have hks:∀ n,n∈m.map (·.1)↔(m.get n).isSome=true:=fun n=>⟨fun hm=>by
    obtain ⟨⟨k,B⟩,hk,rfl⟩:=AG.1 hm
    rw [AM.get_of_mem hnd hk]; rfl,fun hs=>by
    obtain ⟨B,hB⟩:=Zx.1 hs
    exact AG.2 ⟨(n,B),AM.mem_of_get hB,rfl⟩⟩
  have fixU:∀ g,g∈m2.map (·.1)→eD b b g=g:=by
    intro g hg
    obtain ⟨p,hp,rfl⟩:=AG.1 hg
    have:=q2 p hp
    simp only [AZ,decide_eq_true_eq,AH] at this
    obtain ⟨⟨r1,r2⟩,_⟩:=this
    unfold eD
    by_cases hb:p.1<b
    · rcases r2 with r2 | r2
      · omega
      · obtain ⟨B,hB⟩:=Zx.1 ((hks _).1 r2)
        have:=hlt _ B hB
        rw [if_pos hb,if_neg (by omega)]
    · rw [if_neg hb,if_pos r1]; omega
  have hT:∀ g,g∈m2.map (·.1)→(mP b b).fixes g:=fun g hg=>⟨fun r o=>by show AV.ptr (eD b b g) r o=_; rw [fixU g hg],fun l=>by show AV.slm (eD b b g) l=_; rw [fixU g hg],by show AV.mapm (eD b b g)=_; rw [fixU g hg]⟩
  have hupsm:(inlU m m2).map (oS b b)=inlU m m2:=by
    conv=>rhs; rw [← EN (inlU m m2)]
    refine BP fun p hp=>?_
    unfold inlU at hp
    rcases BV.1 hp with hp | hp
    · obtain ⟨q,hq,rfl⟩:=AG.1 hp
      have:=hlt q.1 q.2 (AM.get_of_mem hnd hq)
      simp only [oS,id_eq,CU,Prod.mk.injEq,and_true]
      unfold eD
      rw [if_pos (by omega),if_neg (by omega)]
    · obtain ⟨q,hq,rfl⟩:=AG.1 hp
      have:=q2 q hq
      simp only [oS,id_eq,BK,fixU q.1 (AG.2 ⟨q,hq,rfl⟩)]
      rw [Blk.tr_inN hT this.2]
  have:=fT (kz:=false) (Z:=[]) (args':=args) (m:=M.get) hmcb h1 (AP b) (fun n B hB=>⟨hlt n B hB,nN hM (AM.mem_of_get hB)⟩) hks (fun T hT' n B hB=>?_) (fun g hg=>by cases hg) ?_ (fun p hp=>?_) (.inr (.inl rfl))
  · refine ⟨_,this,?_⟩
    rw [AV.tr_inN hT _ q3]
    simp only [eW,BE,AK,if_false,hupsm,BL]
    exact k4
  · have hB':=AA.1 h0 _ (AM.mem_of_get hB)
    simp only [Zq] at hB'
    exact Blk.tr_inN (fun g hg=>hT' g ((hks g).1 hg)) hB'.2
  · refine dW (fun g hg=>?_) args hargs
    have hc:(m.map (·.1)).contains g=true:=AH.2 hg
    exact ⟨fun r o=>by simp only [kB,hc]; simp,fun l=>by simp only [kB,hc]; simp,by simp only [kB,hc]; simp⟩
  · unfold inlU at hp
    rcases BV.1 hp with hp | hp
    · obtain ⟨q,hq,rfl⟩:=AG.1 hp
      have hg:=AM.get_of_mem hnd hq
      have:=hlt q.1 q.2 hg
      exact ⟨by simp only []; omega,fun _=>by simp only [hg]; rfl⟩
    · obtain ⟨q,hq,rfl⟩:=AG.1 hp
      have:=q2 q hq
      simp only [AZ,decide_eq_true_eq,AH] at this
      refine ⟨this.1.1,fun hb=>?_⟩
      rcases this.1.2 with r | r
      · omega
      · exact (hks _).1 r
theorem AC.inl2 {M:AM} {f:FuncId} {A:AFn} {args:List AV} (hmix:P.follows .mixedOrders=true) (hA:xf P f=some A) (hlf:A.code.lf=true) (hn:args.length≤A.n) (h1:1≤b) (hM:eN M (reachM M (bS 1 (eM args) []))=m) (hnd:(m.map (·.1)).Nodup) (h0:m.all (fun p=>decide (p.1<b - 1) && p.2.inN (m.map (·.1)))=true)
    (hargs:eV (m.map (·.1)) args=true) (h:vc P b A.code (dH A.res (pI b m κ)) (args ++ BZ (A.n - args.length) .und) m b):AC P f args M b κ:=by
  obtain ⟨x,env',m',b',hk,hall⟩:=xM hlf h
  have main:∀ l,resL env' m'.get A.res=some l→(∀ e,gB b m e (cI l) m' b'→dH A.res (gB b m e) x env' m' b')→pI b m κ (cI l) m' b'→AC P f args M b κ:=fun l _ hfin hi =>
    AC.inlD hmix hA hn h1 hM hnd h0 hargs ⟨l,m',b',hi,fun e he=>hall _ (hfin e he)⟩
  cases x with
  | exit i=>exact hk.elim
  | normal =>
    cases hl:resL env' m'.get A.res with
    | none=>simp only [dH,hl,fE] at hk
    | some l=>exact main l hl (fun e he=>by simp only [dH,hl,fE]; exact he) (by simpa only [dH,hl,fE] using hk)
  | ret =>
    cases hl:resL env' m'.get A.res with
    | none=>simp only [dH,hl,fE] at hk
    | some l=>exact main l hl (fun e he=>by simp only [dH,hl,fE]; exact he) (by simpa only [dH,hl,fE] using hk)

def ACN (P:Program) (f:FuncId) (args:List AV) (Z:List Nat) (b:Nat) (κ:Ef→Prop):Prop:=∃ v B,bO P f args (v,[(1,some B)],[])∧κ (v.tr (mP 1 b),Z.map (fun g=>(g,none)) ++ [(b,some (B.tr (mP 1 b)))],Z)
theorem ACN.of {f:FuncId} {args:List AV} {Z:List Nat} {v:AV} {B:Blk} (h:bO P f args (v,[(1,some B)],[])) (hk:κ (v.tr (mP 1 b),Z.map (fun g=>(g,none)) ++ [(b,some (B.tr (mP 1 b)))],Z)):ACN P f args Z b κ:=⟨v,B,h,hk⟩
theorem rm_nil (M:AM):eN M []=[]:=rfl
theorem rm_cons (M:AM) (g:Nat) (l:List Nat):eN M (g :: l)=(match M.get g with | some B=>(g,B) :: eN M l | none=>eN M l):=rfl
theorem nm_nil (M:AM):gY M []=[]:=rfl
theorem nm_cons (M:AM) (g:Nat) (l:List Nat):gY M (g :: l)=(match M.get g with | some B=>B.nms ++ gY M l | none=>gY M l):=rfl
end
end Go.Sak
