/- Part S47 of the proofs about the program: Qd. Conditions: none. -/
import Derived.Test.YtahdilehajdhgaaGreatS04
namespace Go.Sak
open Go Go.RowKit
def nl (n:Nat) (l:List (Option AV)):List (Option AV):=List.replicate n none ++ l
theorem nl_s (n:Nat) (l:List (Option AV)):nl (n+1) l=none :: nl n l:=by simp [nl,List.replicate_succ]
theorem nl_0 (l:List (Option AV)):nl 0 l=l:=rfl
end Go.Sak
