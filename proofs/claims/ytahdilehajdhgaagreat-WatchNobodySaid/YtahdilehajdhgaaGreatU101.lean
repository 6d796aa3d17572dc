/- Part U101 of the proofs about the program: Xd, Pd, Xe, Pe. Conditions: none. -/
import Derived.Test.YtahdilehajdhgaaGreatU03
namespace Go.Sak
open Go Go.RowKit
structure Due where
  tm:Int
  id:Int
  deriving DecidableEq,Inhabited
def zV (d:Due):List AV:=[.int .i64 d.tm,.int .i64 d.id]
theorem uH (x:Due):pures (zV x)=true:=rfl
def vX (a b:Due):Bool:=decide (a.tm<b.tm) || (decide (a.tm=b.tm) && decide (a.id<b.id))
def Ba (n:Int):Bool:=decide (0≤n) && decide (n≤1099511627776)
def Ur (n:Int):Bool:=decide (0≤n) && decide (n<16)
def vY:List Due→Int→Option (Nat×Due)
  | [],_=>none
  | d :: l,k=>if k=d.id then some (0,d) else (vY l k).map fun r=>(r.1+1,r.2)
def Hx (l:List Due) (d:Due):List Due:=match vY l d.id with
  | some r=>l.set r.1 d
  | none=>l ++ [d]
def Ob (l:List Due) (k:Int):Bool:=(vY l k).isSome
def Bb (l:List Due):List Due:=l.foldl Hx []
def Hw (l:List Due) (i:Nat):Bool:=Ba (l.getD i default).tm && Ur (l.getD i default).id && !((l.take i).any fun x=>decide (x.id=(l.getD i default).id)) && (decide (i=0) || vX (l.getD (i - 1) default) (l.getD i default))
def wA (l:List Due):Bool:=(List.range l.length).all (Hw l)
set_option linter.unusedVariables false
set_option linter.unusedSimpArgs false
def Xk (a b:Due):Bool:=!vX b a
def Hy (l:List Due):List Due:=l.mergeSort Xk
def Bz (l:List Due) (d:Due):List Due×Int:=if wA l=false then (l,40) else if Ba d.tm=false then (l,50) else if Ur d.id=false then (l,40) else if Ob (Bb l) d.id=true then (l,60) else (Hy (Hx (Bb l) d),0)
set_option linter.unusedSimpArgs false
end Go.Sak
