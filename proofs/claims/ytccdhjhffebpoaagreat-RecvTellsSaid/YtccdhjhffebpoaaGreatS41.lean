/- Part S41 of the proofs about the program: Xr, Pr. Conditions: none. -/
import Derived.Test.YtccdhjhffebpoaaGreatS03
import Derived.Test.YtccdhjhffebpoaaGreatS40
namespace Go.Sak
open Go Go.RowKit
set_option linter.unusedVariables false
set_option linter.unusedSimpArgs false

def setGot (t:Thread) (got:Int):Thread:=⟨t.st,t.kind,t.val,t.untl,t.pc,t.reg,t.seen,t.tries,t.late,t.res,got⟩
def gEnter (s:State) (id:Int):State:=rAt (withRecvs s (lEnter s.recvs id).1) id 1
def gFirst (s:State) (id:Int):State:=if lPlace s.recvs id=0 then rAt s id 2 else if (me s id).late then rEnds s id 5 9 else rOn s id
def gVain (s:State) (id:Int):State :=
  if (me s id).kind=5 then rEnds s id 4 9 else if (me s id).late then rEnds s id 5 9 else if waitNext s.cfg (me s id).tries=2 then rAt s id 5 else rOn s id
def gLook (s:State) (id:Int):State :=
  if (wSees s.word s.slots.length).2=1 then rAt s id 3 else if (wSees s.word s.slots.length).2=4 then gVain s id else rEnds s id (wSees s.word s.slots.length).2 9
def gTake (s:State) (id:Int):State :=
  let r:=wTake s.word s.slots.length
  if r.2.2=1 then rTell (put1 (withWord s r.1) id (setReg (me s id) r.2.1)) id (me s id).kind 1 (fabValue s r.2.1) 4 else if r.2.2=4 then rAt s id 2 else rEnds s id r.2.2 9
def gRead (s:State) (id:Int):State :=
  rAt (withSlots (put1 s id (setGot (me s id) (slotRead s.slots (me s id).reg).1)) (slotRelease s.slots (me s id).reg).1) id 6
def gPrepare (s:State) (id:Int):State:=rAt (put1 s id (setSeen (me s id) (vPrepare s.empty))) id 7
def gNotify (s:State) (id:Int):State :=
  let r:=vNotify s.full
  rAt (if r.2.2 then fabWake (withFull s r.1) r.2.1 else withFull s r.1) id 9
def gAgain (s:State) (id:Int):State:=if (wSees s.word s.slots.length).2=4∧¬ (me s id).late then rAt s id 8 else rAt s id 2
def gCommit (s:State) (id:Int):State :=
  if (me s id).late then rAt s id 2 else
    let r:=vCommit s.empty (me s id).seen id
    if r.2.1 then put1 (withEmpty s r.1) id (tPark (setPc (me s id) 2) 2).1 else rAt (withEmpty s r.1) id 2
def gLeave (s:State) (id:Int):State:=put1 (withRecvs s (lLeave s.recvs id).1) id (tDone (me s id)).1
def gIs (s:State) (id:Int):Bool:=fabIs s id && decide (tRuns (me s id)=0) && decide (opSide (me s id).kind=2)
def gStep (s:State) (id:Int):State :=
  if ¬ gIs s id then s else match (me s id).pc.toNat with
    | 0=>gEnter s id
    | 1=>gFirst s id
    | 2=>gLook s id
    | 3=>gTake s id
    | 4=>gRead s id
    | 5=>gPrepare s id
    | 6=>gNotify s id
    | 7=>gAgain s id
    | 8=>gCommit s id
    | _=>gLeave s id
def nRun (is:State→Bool) (st:State→State):Nat→State→State×Nat
  | 0,s=>(s,0)
  | n+1,s=>if is s then ((nRun is st n (st s)).1,(nRun is st n (st s)).2+1) else (s,0)
def gRun (s:State) (id:Int) (n:Nat):State×Nat:=nRun (fun s=>gIs s id) (fun s=>gStep s id) n s
def gSteps (s:State) (id n:Int):State×Int:=((gRun s id (min (max n 0) 1000).toNat).1,((gRun s id (min (max n 0) 1000).toNat).2:Int))
theorem nRun_s {is:State→Bool} {st:State→State} {s:State} {n:Nat} (h:is s=true):nRun is st (n+1) s=((nRun is st n (st s)).1,(nRun is st n (st s)).2+1):=by simp only [nRun,h,if_true]
theorem nRun_0 {is:State→Bool} {st:State→State} {s:State} {n:Nat} (h:is s=false):nRun is st n s=(s,0):=by
  cases n with
  | zero=>rfl
  | succ n=>simp only [nRun,h,Bool.false_eq_true,if_false]

theorem tc_got {t:Thread} {x:Int} (h:tCheck t=true) (hr:t.st=1):tCheck (setGot t x)=true:=by
  simp only [tCheck,tKind,tTime,tPlace,setGot,within,Bool.and_eq_true,Bool.or_eq_true,decide_eq_true_eq] at *; grind
theorem Rn.got {s:State} {id x:Int} (h:Rn s id):Rn (put1 s id (setGot (me s id) x)) id:=h.put (tc_got h.tc h.run) h.run
theorem take_at {w:Word} {room:Int} (h:posCheck w room=true):0≤(wTake w room).2.1∧(wTake w room).2.1≤1099511627776:=by
  simp only [posCheck,within,Bool.and_eq_true,decide_eq_true_eq] at h
  unfold wTake; split
  · simp
  · split
    · simp only []; omega
    · split <;> simp
end Go.Sak
