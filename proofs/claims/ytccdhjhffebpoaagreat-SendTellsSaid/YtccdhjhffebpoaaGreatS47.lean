/- Part S47 of the proofs about the program: Qd, Xy. Conditions: none. -/
import Derived.Test.YtccdhjhffebpoaaGreatS04
import Derived.Test.YtccdhjhffebpoaaGreatS40
namespace Go.Sak
open Go Go.RowKit
def nl (n:Nat) (l:List (Option AV)):List (Option AV):=List.replicate n none ++ l
theorem nl_s (n:Nat) (l:List (Option AV)):nl (n+1) l=none :: nl n l:=by simp [nl,List.replicate_succ]
theorem nl_0 (l:List (Option AV)):nl 0 l=l:=rfl
end Go.Sak
namespace Go.Sak
open Go Go.RowKit
set_option linter.defProp false
def qC:=And.intro (And.intro (And.intro (And.intro (show ∀ s:State,(encZ s)[0]?=some (.int .i64 s.cfg.lg) from fun _=>rfl) (show ∀ s:State,(encZ s)[1]?=some (.int .i64 s.cfg.th) from fun _=>rfl)) (And.intro (show ∀ s:State,(encZ s)[2]?=some (.int .i64 s.cfg.pol) from fun _=>rfl) (And.intro (show ∀ s:State,(encZ s)[3]?=some (.int .i64 s.cfg.wt) from fun _=>rfl) (show ∀ s:State,(encZ s)[4]?=some (.int .i64 s.cfg.spin) from fun _=>rfl)))) (And.intro (And.intro (show ∀ s:State,(encZ s)[5]?=some (.int .i64 s.cfg.yld) from fun _=>rfl) (And.intro (show ∀ s:State,(encZ s)[6]?=some (.bool s.cfg.single) from fun _=>rfl) (show ∀ s:State,(encZ s)[7]?=some (.int .i64 s.word.h) from fun _=>rfl))) (And.intro (show ∀ s:State,(encZ s)[8]?=some (.int .i64 s.word.t) from fun _=>rfl) (And.intro (show ∀ s:State,(encZ s)[9]?=some (.int .i64 s.word.m) from fun _=>rfl) (show ∀ s:State,(encZ s)[10]?=some (.slv 2 (s.slots.map encS)) from fun _=>rfl))))) (And.intro (And.intro (And.intro (show ∀ s:State,(encZ s)[11]?=some (.slv 1 (s.sends.map encI)) from fun _=>rfl) (show ∀ s:State,(encZ s)[12]?=some (.slv 1 (s.recvs.map encI)) from fun _=>rfl)) (And.intro (show ∀ s:State,(encZ s)[13]?=some (.int .i64 s.full.ep) from fun _=>rfl) (And.intro (show ∀ s:State,(encZ s)[14]?=some (.slv 1 (s.full.ln.map encI)) from fun _=>rfl) (show ∀ s:State,(encZ s)[15]?=some (.int .i64 s.empty.ep) from fun _=>rfl)))) (And.intro (And.intro (show ∀ s:State,(encZ s)[16]?=some (.slv 1 (s.empty.ln.map encI)) from fun _=>rfl) (And.intro (show ∀ s:State,(encZ s)[17]?=some (.int .i64 s.now) from fun _=>rfl) (show ∀ s:State,(encZ s)[18]?=some (.slv 11 (s.threads.map encT)) from fun _=>rfl))) (And.intro (show ∀ s:State,(encZ s)[19]?=some (.slv 5 (s.log.map encE)) from fun _=>rfl) (And.intro (show ∀ s:State,(encZ s).take 7=encC s.cfg from fun _=>rfl) (show ∀ s:State,((encZ s).drop 7).take 3=encW s.word from fun _=>rfl)))))
end Go.Sak
