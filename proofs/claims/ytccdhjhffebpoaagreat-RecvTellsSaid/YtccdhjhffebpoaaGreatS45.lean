/- Part S45 of the proofs about the program: Po, Pp. Conditions: none. -/
import Derived.Test.YtccdhjhffebpoaaGreatS40
namespace Go.Sak
open Go Go.RowKit
set_option linter.unusedVariables false
set_option linter.unusedSimpArgs false

theorem sIs_iff {s:State} {id:Int}:sIs s id=true↔Rn s id∧opSide (me s id).kind=1:=by
  simp only [sIs,Bool.and_eq_true,decide_eq_true_eq]
  constructor
  · rintro ⟨⟨h1,h2⟩,h3⟩; exact ⟨rn_of h1 h2,h3⟩
  · rintro ⟨h1,h3⟩; exact ⟨⟨h1.is,by unfold tRuns; rw [h1.run]; rfl⟩,h3⟩
theorem th16 {s:State} (h:Fab s):s.cfg.th≤16:=by
  have:=h.room
  unfold confRoom at this; split at this
  · rename_i hc; simp only [confOk,within,Bool.and_eq_true,decide_eq_true_eq] at hc; omega
  · exact absurd rfl this
theorem sRun_s {s:State} {id:Int} {n:Nat} (h:sIs s id=true):sRun s id (n+1)=((sRun (sStep s id) id n).1,(sRun (sStep s id) id n).2+1):=by simp only [sRun,h,if_true]
theorem sRun_0 {s:State} {id:Int} {n:Nat} (h:sIs s id=false):sRun s id n=(s,0):=by
  cases n with
  | zero=>rfl
  | succ n=>simp only [sRun,h,Bool.false_eq_true,if_false]
structure Sd (u:State) (id:Int) (t:Thread):Prop where
  fab:Fab (put1 u id t)
  lo:0≤id
  hi:id<u.threads.length
  run:t.st=1
  side:opSide t.kind=1
theorem Sd.is {u:State} {id:Int} {t:Thread} (h:Sd u id t):sIs (put1 u id t) id=true:=by
  have hm:=me_put (t:=t) h.lo h.hi
  exact sIs_iff.2 ⟨⟨h.fab,h.lo,by simp only [put1,List.length_set]; exact h.hi,by rw [hm]; exact h.run⟩,by rw [hm]; exact h.side⟩
theorem Sd.step {u u':State} {id:Int} {t t':Thread} (h:Sd u id t) (e:sStep (put1 u id t) id=put1 u' id t') (hl:u'.threads.length=u.threads.length) (h1:t'.st=1) (h2:t'.kind=t.kind):Sd u' id t' :=
  ⟨e ▸ s_stays h.fab,h.lo,by rw [hl]; exact h.hi,h1,by rw [h2]; exact h.side⟩
theorem Sd.at {u:State} {id:Int} {t:Thread} (h:Sd u id t):sStep (put1 u id t) id=(match t.pc.toNat with
    | 0=>sEnter (put1 u id t) id | 1=>sFirst (put1 u id t) id | 2=>sLook (put1 u id t) id | 3=>sWrite (put1 u id t) id | 4=>sAccept (put1 u id t) id | 5=>sPrepare (put1 u id t) id | 6=>sNotify (put1 u id t) id
    | 7=>sAgain (put1 u id t) id | 8=>sCommit (put1 u id t) id | 9=>sLeave (put1 u id t) id | 10=>sEvict (put1 u id t) id | 11=>sRelease (put1 u id t) id | _=>put1 u id t):=by
  unfold sStep
  rw [if_neg (by simp [h.is]),me_put h.lo h.hi]
  rfl
theorem sd_0 {u:State} {id:Int} {t:Thread} (h:Sd u id t) (hp:t.pc=0):sStep (put1 u id t) id=put1 (withSends u (lEnter u.sends id).1) id (setPc t 1):=by
  rw [h.at,hp]
  show rAt (withSends (put1 u id t) (lEnter u.sends id).1) id 1=_
  unfold rAt
  rw [show me (withSends (put1 u id t) (lEnter u.sends id).1) id=t from me_put h.lo h.hi]
  exact put_put (withSends u (lEnter u.sends id).1) id t _
theorem sd_1 {u:State} {id:Int} {t:Thread} (h:Sd u id t) (hp:t.pc=1) (hl:lPlace u.sends id=0):sStep (put1 u id t) id=put1 u id (setPc t 2):=by
  rw [h.at,hp]
  show sFirst (put1 u id t) id=_
  unfold sFirst
  rw [if_pos (show lPlace (put1 u id t).sends id=0 from hl)]
  unfold rAt
  rw [me_put h.lo h.hi,put_put]
theorem sd_2 {u:State} {id:Int} {t:Thread} (h:Sd u id t) (hp:t.pc=2) (hw:(wAccept u.word u.slots.length).2.2=1):sStep (put1 u id t) id=put1 u id (setPc (setReg t u.word.t) 3):=by
  rw [h.at,hp]
  show sLook (put1 u id t) id=_
  unfold sLook
  rw [if_pos (show (wSees (put1 u id t).word (put1 u id t).slots.length).1=1 from hw)]
  unfold rAt
  rw [show ∀ r,me (put1 (put1 u id t) id r) id=r from fun r=>by rw [put_put,me_put h.lo h.hi],me_put h.lo h.hi,put_put,put_put]
  rfl
theorem sd_3 {u:State} {id:Int} {t:Thread} (h:Sd u id t) (hp:t.pc=3) (hr:slotReady u.slots t.reg=true) :
    sStep (put1 u id t) id=put1 (withSlots u (u.slots.set (slotAt u.slots t.reg) ⟨t.reg,t.val⟩)) id (setPc t 4):=by
  obtain ⟨h0,hc,hs⟩:=ready_stamp hr
  have e:slotWrite u.slots t.reg t.val=(u.slots.set (slotAt u.slots t.reg) ⟨t.reg,t.val⟩,0):=by
    unfold slotWrite
    rw [if_neg (by simp [hc]; omega),if_neg (by simp [hr]),hs]
  rw [h.at,hp]
  show sWrite (put1 u id t) id=_
  unfold sWrite
  rw [me_put h.lo h.hi]
  show (if (slotWrite u.slots t.reg t.val).2=0 then rAt (withSlots (put1 u id t) (slotWrite u.slots t.reg t.val).1) id 4 else put1 u id t)=_
  rw [e,if_pos rfl]
  unfold rAt
  rw [show ∀ l,me (withSlots (put1 u id t) l) id=t from fun l=>me_put h.lo h.hi]
  exact put_put (withSlots u _) id t _
theorem sd_tell {u:State} {id:Int} {t:Thread} (h:Rn (put1 u id t) id) (hu:id<u.threads.length) (k r g pc:Int):rTell (put1 u id t) id k r g pc=put1 (logged u ⟨id,k,t.val,r,g⟩) id (setPc (tTold t k r g) pc):=by
  unfold rTell fabTell
  rw [if_pos h.is,me_put h.lo hu,put_put]
  unfold rAt
  rw [me_logged,me_put h.lo hu]
  exact put_put (logged u ⟨id,k,t.val,r,g⟩) id _ _
theorem Sd.rn {u:State} {id:Int} {t:Thread} (h:Sd u id t):Rn (put1 u id t) id:=(sIs_iff.1 h.is).1
theorem sd_4 {u:State} {id:Int} {t:Thread} {w:Word} {a:Int} (h:Sd u id t) (hp:t.pc=4) (hw:wAccept u.word u.slots.length=(w,a,1)) :
    sStep (put1 u id t) id=put1 (logged (withWord u w) ⟨id,t.kind,t.val,1,0⟩) id (setPc (tTold t t.kind 1 0) 6):=by
  rw [h.at,hp]
  show sAccept (put1 u id t) id=_
  have hr:Rn (put1 (withWord u w) id t) id:=by
    have:=h.rn.wd (w:=w) (by
      have:=wp_accept h.fab.word
      rw [← h.fab.len] at this ⊢
      have e:(wAccept (put1 u id t).word (put1 u id t).slots.length).1=w:=congrArg Prod.fst hw
      rw [e] at this; exact this)
    exact this
  unfold sAccept
  rw [me_put h.lo h.hi]
  show (if (wAccept u.word u.slots.length).2.2=1 then rTell (put1 (withWord u (wAccept u.word u.slots.length).1) id t) id t.kind 1 0 6 else _)=_
  rw [hw,if_pos rfl,sd_tell hr h.hi]
theorem sd_6 {u:State} {id:Int} {t:Thread} (h:Sd u id t) (hp:t.pc=6) (hl:u.empty.ln=[]):sStep (put1 u id t) id=put1 (withEmpty u ⟨min (u.empty.ep+1) 1099511627776,[]⟩) id (setPc t 9):=by
  rw [h.at,hp]
  show sNotify (put1 u id t) id=_
  have hv:vNotify u.empty=(⟨min (u.empty.ep+1) 1099511627776,[]⟩,0,false):=by
    unfold vNotify
    rw [if_neg (by have:=h.fab.empty; simp only [put1] at this; simp [this]),hl]
  unfold sNotify
  show rAt (if (vNotify u.empty).2.2=true then _ else withEmpty (put1 u id t) (vNotify u.empty).1) id 9=_
  rw [hv]
  simp only [Bool.false_eq_true,if_false]
  unfold rAt
  rw [show ∀ e,me (withEmpty (put1 u id t) e) id=t from fun e=>me_put h.lo h.hi]
  exact put_put (withEmpty u _) id t _
theorem sd_9 {u:State} {id:Int} {t:Thread} (h:Sd u id t) (hp:t.pc=9):sStep (put1 u id t) id=put1 (withSends u (lLeave u.sends id).1) id (tBare t):=by
  rw [h.at,hp]
  show sLeave (put1 u id t) id=_
  unfold sLeave
  rw [me_put h.lo h.hi]
  have:tDone t=(tBare t,0):=by unfold tDone tRuns; rw [h.run]; rfl
  rw [this]
  exact put_put (withSends u (lLeave u.sends id).1) id t _
theorem line_one {id:Int} (h0:0≤id) (h1:id<16):lEnter [] id=([id],0)∧lPlace [id] id=0∧lLeave [id] id=([],0):=by
  have hc:lCheck [id]=true:=lCheck_iff.2 ⟨by simp,fun x hx=>by simp at hx; omega⟩
  have hp:lPlace [id] id=0:=by simp [lPlace,hc,idxF,List.findIdx?_cons]
  refine ⟨?_,hp,?_⟩
  · unfold lEnter
    rw [if_neg (by simp [hc]; rfl),if_neg (by simp [lPlace,lCheck,idxF,lU])]
    rfl
  · unfold lLeave; rw [if_neg (by rw [hp]; decide),hp]; rfl
theorem sd_end {u:State} {id:Int} {t:Thread} {n:Nat} (h0:0≤id) (h1:id<u.threads.length):sRun (put1 u id (tBare t)) id n=(put1 u id (tBare t),0):=by
  refine sRun_0 ?_
  simp only [sIs,me_put h0 h1]
  simp [tBare,tRuns]

def t0 (kind val untl:Int):Thread:=⟨1,kind,val,untl,0,0,0,0,false,0,0⟩
def t9 (kind val untl res got:Int):Thread:=⟨0,kind,val,untl,0,0,0,0,false,res,got⟩
def oneIn (u:State) (id kind val:Int):State :=
  ⟨u.cfg,⟨u.word.h,u.word.t+1,u.word.m⟩,u.slots.set (slotAt u.slots u.word.t) ⟨u.word.t,val⟩,[],u.recvs,u.full,⟨min (u.empty.ep+1) 1099511627776,[]⟩,u.now,u.threads,u.log ++ [⟨id,kind,val,1,0⟩]⟩
theorem Sd.id16 {u:State} {id:Int} {t:Thread} (h:Sd u id t):id<16:=by
  have h1:=th16 h.fab
  have h2:=h.fab.thl
  have h3:=h.hi
  simp only [put1,List.length_set] at h1 h2; omega
theorem lone {u:State} {id kind val untl:Int} (h:Sd u id (t0 kind val untl)) (hs:u.sends=[]) (he:u.empty.ln=[]) (hk:kind≠9) (hw:wAccept u.word u.slots.length=(⟨u.word.h,u.word.t+1,u.word.m⟩,u.word.t,1))
    (hr:slotReady u.slots u.word.t=true) (n:Nat):sRun (put1 u id (t0 kind val untl)) id (n+7)=(put1 (oneIn u id kind val) id (t9 kind val untl 1 0),7):=by
  obtain ⟨hl1,hl2,hl3⟩:=line_one h.lo h.id16
  have e0:=sd_0 h rfl
  rw [hs,hl1] at e0
  have h1:=h.step e0 rfl rfl rfl
  have e1:=sd_1 h1 rfl hl2
  have h2:=h1.step e1 rfl rfl rfl
  have e2:=sd_2 h2 rfl (by show (wAccept u.word u.slots.length).2.2=1; rw [hw])
  have h3:=h2.step e2 rfl rfl rfl
  have e3:=sd_3 h3 rfl hr
  have h4:=h3.step e3 rfl rfl rfl
  have e4:=sd_4 (w:=⟨u.word.h,u.word.t+1,u.word.m⟩) (a:=u.word.t) h4 rfl (by
    show wAccept u.word ((u.slots.set _ _).length:Nat)=_
    rw [List.length_set]; exact hw)
  have h5:=h4.step e4 rfl (by unfold tTold setPc; split <;> rfl) (by unfold tTold setPc; split <;> rfl)
  have ht:tTold (setPc (setPc (setReg (setPc (setPc (t0 kind val untl) 1) 2) u.word.t) 3) 4) kind 1 0=⟨1,kind,val,untl,4,u.word.t,0,0,false,1,0⟩:=by
    unfold tTold; rw [if_pos hk]; rfl
  have e5:=sd_6 h5 rfl he
  have h6:=h5.step e5 rfl (by unfold tTold setPc; split <;> rfl) (by unfold tTold setPc; split <;> rfl)
  have e6:=sd_9 h6 rfl
  rw [show n+7=n+6+1 from rfl,sRun_s h.is,e0,show n+6=n+5+1 from rfl,sRun_s h1.is,e1,show n+5=n+4+1 from rfl,sRun_s h2.is,e2,show n+4=n+3+1 from rfl,sRun_s h3.is,e3,
    show n+3=n+2+1 from rfl,sRun_s h4.is,e4,show n+2=n+1+1 from rfl,sRun_s h5.is,e5,sRun_s h6.is,e6,sd_end h.lo (by exact h.hi)]
  refine Prod.ext ?_ rfl
  show put1 _ id (tBare (setPc (setPc (tTold (setPc (setPc (setReg (setPc (setPc (t0 kind val untl) 1) 2) u.word.t) 3) 4) kind 1 0) 6) 9))=_
  rw [ht]
  show put1 (withSends _ (lLeave [id] id).1) id _=_
  rw [hl3]
  rfl

def fillT (c:Config) (b:Int) (n:Nat):List Thread:=if n=0 then List.replicate c.th.toNat default else (List.replicate c.th.toNat default).set 0 (t9 1 (b+n - 1) 0 1 0)
def fillSl (r:Nat) (b:Int) (n:Nat):List Slot:=(List.range r).map fun (j:Nat)=>⟨(j:Int),if j<n then b+j else 0⟩
def fillS (c:Config) (b:Int) (n:Nat):State :=
  ⟨c,⟨0,n,0⟩,fillSl (confRoom c).toNat b n,[],[],⟨0,[]⟩,⟨n,[]⟩,0,fillT c b n,(List.range n).map fun (j:Nat)=>⟨0,1,b+j,1,0⟩⟩
theorem room_of {c:Config} (h:confOk c=true):2≤confRoom c∧confRoom c≤64∧1≤c.th∧c.th≤16∧0≤c.pol∧c.pol≤2∧0≤c.wt∧c.wt≤3:=by
  unfold confRoom; rw [if_pos h]
  simp only [confOk,within,Bool.and_eq_true,decide_eq_true_eq] at h
  have:c.lg=1∨c.lg=2∨c.lg=3∨c.lg=4∨c.lg=5∨c.lg=6:=by omega
  rcases this with e | e | e | e | e | e <;> (rw [e]; simp; omega)
theorem confCheck_ok {c:Config}:confCheck c=0↔confOk c=true:=by
  unfold confCheck; split <;> simp_all
theorem fillSl_len {r:Nat} {b:Int} {n:Nat}:(fillSl r b n).length=r:=by simp [fillSl]
theorem fillSl_get {r:Nat} {b:Int} {n j:Nat} (h:j<r):(fillSl r b n).getD j default=⟨(j:Int),if j<n then b+j else 0⟩:=by
  simp [fillSl,List.getD_eq_getElem?_getD,h]
theorem place_id {j r:Nat} (h:j<r):posPlace (j:Int) r=j:=by
  unfold posPlace posIs
  rw [if_pos (by simp; omega),Int.tmod_eq_emod_of_nonneg (by omega),Int.emod_eq_of_lt (by omega) (by omega)]
theorem fillSl_ok {r:Nat} {b:Int} {n:Nat} (h1:1≤r) (h2:r≤64):slotCheck (fillSl r b n)=true:=by
  rw [sc_iff,fillSl_len]
  refine ⟨⟨h1,h2⟩,fun j hj=>?_⟩
  rw [fillSl_get hj]
  exact ⟨by simp only []; omega,by simp only []; omega,place_id hj⟩
theorem fillSl_set {r:Nat} {b:Int} {n:Nat} (h:n<r):(fillSl r b n).set n ⟨(n:Int),b+n⟩=fillSl r b (n+1):=by
  refine List.ext_getElem (by simp [fillSl]) fun j h1 h2=>?_
  rw [List.getElem_set]
  simp only [fillSl,List.getElem_map,List.getElem_range]
  split
  · rename_i e; subst e; simp
  · by_cases c:j<n
    · rw [if_pos c,if_pos (by omega)]
    · rw [if_neg c,if_neg (by omega)]
theorem fillT_len {c:Config} {b:Int} {n:Nat}:(fillT c b n).length=c.th.toNat:=by unfold fillT; split <;> simp
theorem fillT_set {c:Config} {b:Int} {n:Nat}:(fillT c b n).set 0 (t9 1 (b+n) 0 1 0)=fillT c b (n+1):=by
  unfold fillT
  rw [if_neg (show ¬ n+1=0 by omega),show b+((n+1:Nat):Int) - 1=b+n from by omega]
  split
  · rfl
  · rw [List.set_set]
theorem tc_t9 {k v r g:Int} (hk:1≤k∧k≤8) (hr:0≤r∧r≤7):tCheck (t9 k v 0 r g)=true:=by
  have:opCheck k=true:=by
    have:k=1∨k=2∨k=3∨k=4∨k=5∨k=6∨k=7∨k=8:=by omega
    rcases this with e | e | e | e | e | e | e | e <;> (subst e; decide)
  simp [tCheck,t9,within,tKind,tTime,tPlace,this,tBare,hr.1,hr.2]
theorem fillT_ok {c:Config} {b:Int} {n:Nat}:∀ t,t∈fillT c b n→tCheck t=true:=by
  intro t ht
  unfold fillT at ht; split at ht
  · rw [List.eq_of_mem_replicate ht]; decide
  · rcases List.mem_or_eq_of_mem_set ht with ht | rfl
    · rw [List.eq_of_mem_replicate ht]; decide
    · exact tc_t9 (by decide) (by decide)
theorem len_fill {n:Nat}:posLen ⟨0,(n:Int),0⟩=n:=by
  simp only [posLen]; split
  · omega
  · rw [if_neg (by omega)]; omega
theorem fill_fab {c:Config} {b:Int} {n:Nat} (h:confOk c=true) (hn:(n:Int)≤confRoom c):Fab (fillS c b n):=by
  have hr:=room_of h
  have hl:((fillSl (confRoom c).toNat b n).length:Int)=confRoom c:=by rw [fillSl_len]; omega
  have hp:posCheck ⟨0,(n:Int),0⟩ (confRoom c)=true:=by simp only [posCheck,within,Bool.and_eq_true,decide_eq_true_eq,len_fill]; omega
  have hv:∀ m:Nat,(m:Int)≤64→vCheck ⟨(m:Int),[]⟩=true:=fun m hm=>vc_iff.2 ⟨by simp only []; omega,by simp only []; omega,rfl⟩
  exact ⟨by simp only [fillS]; omega,hp,hl,fillSl_ok (by omega) (by omega),rfl,rfl,rfl,rfl,hv 0 (by decide),hv n (by omega),by simp only [fillS]; omega,by simp only [fillS]; omega,
    by simp only [fillS,fillT_len]; omega,fillT_ok⟩
theorem fill_new {c:Config} {b:Int} (h:confOk c=true):fabNew c=(fillS c b 0,0):=by
  have hr:=room_of h
  unfold fabNew
  rw [if_neg (by simp [confCheck_ok.2 h])]
  refine Prod.ext ?_ rfl
  have:slotNew (confRoom c)=fillSl (confRoom c).toNat b 0:=by unfold slotNew; rw [if_neg (by omega)]; simp [fillSl]
  simp only [this]
  rfl
theorem fill_accept {c:Config} {b:Int} {n:Nat} (h:confOk c=true) (hn:(n:Int)<confRoom c):wAccept (fillS c b n).word (fillS c b n).slots.length=((⟨0,(n:Int)+1,0⟩:Word),(n:Int),(1:Int)):=by
  have hr:=room_of h
  have hl:((fillS c b n).slots.length:Int)=confRoom c:=(fill_fab h (by omega)).len
  have hp:posCheck ⟨0,(n:Int),0⟩ (confRoom c)=true:=by simp only [posCheck,within,Bool.and_eq_true,decide_eq_true_eq,len_fill]; omega
  rw [hl]
  simp only [fillS,wAccept,wHalted,hp,posFull,len_fill]
  rw [if_neg (by simp),if_neg (by omega),if_neg (by simp; omega)]
theorem fill_ready {c:Config} {b:Int} {n:Nat} (h:confOk c=true) (hn:(n:Int)<confRoom c):slotReady (fillS c b n).slots (n:Int)=true∧slotAt (fillS c b n).slots (n:Int)=n:=by
  have hr:=room_of h
  have hk:n<(confRoom c).toNat:=by omega
  have hp:posPlace (n:Int) ((fillS c b n).slots.length:Nat)=n:=by
    show posPlace _ ((fillSl (confRoom c).toNat b n).length:Nat)=n
    rw [fillSl_len]; exact place_id hk
  refine ⟨?_,by unfold slotAt; rw [hp]; rfl⟩
  simp only [slotReady,Bool.and_eq_true,decide_eq_true_eq]
  refine ⟨⟨by omega,(fill_fab h (by omega)).slot⟩,?_⟩
  rw [hp]
  show ((fillSl (confRoom c).toNat b n).getD n default).stamp=n
  rw [fillSl_get hk]
theorem t0_ok {k v:Int} (hk:1≤k∧k≤8):tCheck (t0 k v 0)=true:=by
  have:opCheck k=true:=by
    have:k=1∨k=2∨k=3∨k=4∨k=5∨k=6∨k=7∨k=8:=by omega
    rcases this with e | e | e | e | e | e | e | e <;> (subst e; decide)
  simp [tCheck,t0,within,tKind,tTime,tPlace,this]
theorem invoke_ok {s:State} {id k v:Int} (h:Fab s) (h0:0≤id) (h1:id<s.threads.length) (hi:(me s id).st=0) (hk:k=1∨k=2∨k=3):fabInvoke s id k v 0=(put1 s id (t0 k v 0),0):=by
  have hm:opMay s.cfg.th s.cfg.single id k=0:=by
    have:=h.thl
    unfold opMay
    rw [if_neg (by omega)]
    rcases hk with e | e | e <;> (subst e; simp [opCheck,opSide])
  have hc:opCheck k=true:=by rcases hk with e | e | e <;> (subst e; decide)
  have hf:fabIs s id=true:=by
    simp only [fabIs,Bool.and_eq_true,decide_eq_true_eq]; exact ⟨⟨fab_iff.2 h,h0⟩,h1⟩
  unfold fabInvoke
  rw [if_neg (by simp [fab_iff.2 h]),if_neg (by simp [hm]),if_pos hf]
  have ht:tInvoke (me s id) k v 0=(t0 k v 0,0):=by
    unfold tInvoke
    rw [if_neg (by simp [hi]),if_neg (by simp [hc]),if_neg (by simp [within])]
    simp [t0]
  rw [ht]
theorem fill_idle {c:Config} {b:Int} {n:Nat} {id:Int} (h0:0≤id) (h1:id<c.th):(me (fillS c b n) id).st=0:=by
  have hm:me (fillS c b n) id∈fillT c b n:=by
    show (fillT c b n).getD id.toNat default∈_
    exact getD_mem (by rw [fillT_len]; omega)
  generalize me (fillS c b n) id=t at hm
  unfold fillT at hm; split at hm
  · rw [List.eq_of_mem_replicate hm]; rfl
  · rcases List.mem_or_eq_of_mem_set hm with ht | rfl
    · rw [List.eq_of_mem_replicate ht]; rfl
    · rfl
theorem fill_sd {c:Config} {b:Int} {n:Nat} {id k v:Int} (h:confOk c=true) (hn:(n:Int)≤confRoom c) (h0:0≤id) (h1:id<c.th) (hk:k=1∨k=2∨k=3):Sd (fillS c b n) id (t0 k v 0) :=
  ⟨(fill_fab h hn).put (t0_ok (by omega)),h0,by show id<(fillT c b n).length; rw [fillT_len]; omega,rfl,by rcases hk with e | e | e <;> (subst e; rfl)⟩
theorem fill_invoke {c:Config} {b:Int} {n:Nat} {id k v:Int} (h:confOk c=true) (hn:(n:Int)≤confRoom c) (h0:0≤id) (h1:id<c.th) (hk:k=1∨k=2∨k=3):fabInvoke (fillS c b n) id k v 0=(put1 (fillS c b n) id (t0 k v 0),0) :=
  invoke_ok (fill_fab h hn) h0 (by show id<(fillT c b n).length; rw [fillT_len]; omega) (fill_idle h0 h1) hk
theorem fill_lone {c:Config} {b:Int} {n:Nat} {id k v:Int} (h:confOk c=true) (hn:(n:Int)<confRoom c) (h0:0≤id) (h1:id<c.th) (hk:k=1∨k=2∨k=3) (m:Nat) :
    sRun (put1 (fillS c b n) id (t0 k v 0)) id (m+7)=(put1 (oneIn (fillS c b n) id k v) id (t9 k v 0 1 0),7) :=
  lone (fill_sd h (by omega) h0 h1 hk) rfl rfl (by omega) (fill_accept h hn) (fill_ready h hn).1 m
theorem fill_one {c:Config} {b:Int} {n:Nat} (h:confOk c=true) (hn:(n:Int)<confRoom c):put1 (oneIn (fillS c b n) 0 1 (b+n)) 0 (t9 1 (b+n) 0 1 0)=fillS c b (n+1):=by
  have hr:=room_of h
  have hs:=(fill_ready (b:=b) h hn).2
  have e1:(fillS c b n).slots.set (slotAt (fillS c b n).slots (n:Int)) ⟨(n:Int),b+n⟩=fillSl (confRoom c).toNat b (n+1):=by rw [hs]; exact fillSl_set (by omega)
  have e2:min ((n:Int)+1) 1099511627776=((n+1:Nat):Int):=by omega
  have e3:(List.range n).map (fun (j:Nat)=>(⟨0,1,b+j,1,0⟩:Entry)) ++ [⟨0,1,b+n,1,0⟩]=(List.range (n+1)).map fun (j:Nat)=>(⟨0,1,b+j,1,0⟩:Entry):=by rw [List.range_succ]; simp
  have e4:(fillT c b n).set 0 (t9 1 (b+n) 0 1 0)=fillT c b (n+1):=fillT_set
  show (⟨c,⟨0,(n:Int)+1,0⟩,(fillS c b n).slots.set (slotAt (fillS c b n).slots (n:Int)) ⟨(n:Int),b+n⟩,[],[],⟨0,[]⟩,⟨min ((n:Int)+1) 1099511627776,[]⟩,0,(fillT c b n).set 0 (t9 1 (b+n) 0 1 0),(List.range n).map (fun (j:Nat)=>(⟨0,1,b+j,1,0⟩:Entry)) ++ [⟨0,1,b+n,1,0⟩]⟩:State)=_
  rw [e1,e2,e3,e4]
  rfl
theorem fill_steps {c:Config} {b:Int} {n:Nat} (h:confOk c=true) (hn:(n:Int)<confRoom c):sSteps (put1 (fillS c b n) 0 (t0 1 (b+n) 0)) 0 100=(fillS c b (n+1),7):=by
  have hr:=room_of h
  unfold sSteps
  rw [show (min (100:Int) 1000).toNat=93+7 from rfl,fill_lone h hn (by decide) (by omega) (.inl rfl) 93,fill_one h hn]
  rfl
end Go.Sak
