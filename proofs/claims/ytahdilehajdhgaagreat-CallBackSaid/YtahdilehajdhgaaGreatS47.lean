/- Part S47 of the proofs about the program: Qd, Xy. Conditions: none. -/
import Derived.Test.YtahdilehajdhgaaGreatS04
import Derived.Test.YtahdilehajdhgaaGreatS40
namespace Go.Sak
open Go Go.RowKit
def nl (n:Nat) (l:List (Option AV)):List (Option AV):=List.replicate n none ++ l
theorem nl_s (n:Nat) (l:List (Option AV)):nl (n+1) l=none :: nl n l:=by simp [nl,List.replicate_succ]
theorem nl_0 (l:List (Option AV)):nl 0 l=l:=rfl
end Go.Sak
namespace Go.Sak
open Go Go.RowKit
set_option linter.defProp false
end Go.Sak
