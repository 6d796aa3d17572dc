/- Part S46 of the proofs about the program: Pq, K45. Conditions: none. -/
import Derived.Test.YtccdhjhffebpoaaGreatS45
import Derived.Test.YtccdhjhffebpoaaGreatS37
import Derived.Test.YtccdhjhffebpoaaGreatS40
import Derived.Test.YtccdhjhffebpoaaGreatProg
import Derived.KernelRfl
import Derived.Test.YtccdhjhffebpoaaGreatS47
namespace Go.Sak
open Go Go.RowKit
set_option linter.unusedVariables false
set_option linter.unusedSimpArgs false

def BdP (s:State) (k:Nat):Prop:=s.slots.length≤k∧s.sends.length≤k∧s.recvs.length≤k∧s.full.ln.length≤k∧s.empty.ln.length≤k∧s.threads.length≤k∧s.log.length≤k
theorem fill_bd {c:Config} {b:Int} {n:Nat} (h:confOk c=true) (hn:(n:Int)≤confRoom c):BdP (fillS c b n) 1000:=by
  have hr:=room_of h
  refine ⟨?_,?_,?_,?_,?_,?_,?_⟩
  · show (fillSl (confRoom c).toNat b n).length≤_; rw [fillSl_len]; omega
  · exact Nat.zero_le _
  · exact Nat.zero_le _
  · exact Nat.zero_le _
  · exact Nat.zero_le _
  · show (fillT c b n).length≤_; rw [fillT_len]; omega
  · show ((List.range n).map _).length≤_; simp; omega
theorem put_bd {s:State} {k:Nat} {id:Int} {t:Thread} (h:BdP s k):BdP (put1 s id t) k:=by
  unfold BdP put1 at *; simpa using h
end Go.Sak
namespace Go.Sak
open Go Go.RowKit Go.Proofs
set_option linter.unusedVariables false
set_option linter.unusedSimpArgs false
set_option maxRecDepth 10000
set_option maxHeartbeats 8000000
set_option linter.defProp false
theorem pure_encQ (q:Queue):pures (encQ q)=true:=by simp [encQ,pures,AV.pure,puress_map pure_encI]
theorem pure_encC (c:Config):pures (encC c)=true:=rfl
def qCf:=And.intro (And.intro (And.intro (show ∀ c:Config,(encC c).length=7 from fun _=>rfl) (show ∀ c:Config,(encC c).take 7=encC c from fun _=>rfl)) (And.intro (show ∀ c:Config,(encC c).all AV.one=true from fun _=>rfl) (And.intro (show ∀ c:Config,(encC c)[1]?=some (.int .i64 c.th) from fun _=>rfl) (show ∀ c:Config,(encC c)[2]?=some (.int .i64 c.pol) from fun _=>rfl)))) (And.intro (And.intro (show ∀ c:Config,(encC c)[3]?=some (.int .i64 c.wt) from fun _=>rfl) (And.intro (show ∀ c:Config,(encC c).drop 7=[] from fun _=>rfl) (pure_encC))) (And.intro (fun (L:List Nat) (x:Config)=>inNs_pure (L:=L) _ (pure_encC x)) (And.intro (fun x:Config=>nmsL_pure _ (pure_encC x)) (fun (T:Tr) (x:Config)=>trs_pure T _ (pure_encC x)))))
theorem con47s {c:Config}:Con Tryz.prog 47 [.agg (encC c)] (.tup [.agg (encZ (fabNew c).1),.int .i64 (fabNew c).2],[],[]):=con47
theorem bdP {s:State} {k n:Nat} (h:BdP s k) (hk:k≤n):Bd s n:=(show Bd s k from h).mono hk
end Go.Sak
