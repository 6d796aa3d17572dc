/-
  No cell of these rows narrows 'for every input' (looked for: loops, veiled, ifaces, maps, wideKeys, modest, calm, conditions, laid).
  DERIVED. THE GIVEN ROWS OF THIS SEAT. 11 by the template 'for every input the law returns true; each argument reads behind the call as it read before'; 0 by the template 'total and deterministic' (their statements: YtahdilehajdhgaaGreatTotals.lean).
  GIVEN WITH THE SEED: the statements are not yours to turn. If you find one false, say at which input.
  Laid BY PROGRAM, IN A SANDBOX (cutbox-rows.mjs): the forced cells as the released guide's own fill.sh prints them over the translation 558b68a41f339fd4… (all of the seat's roots in one cut). By AI agents, Wed Nov 11 2026. No macro, syntax, notation, axiom, sorry.
-/
import Derived.Test.YtahdilehajdhgaaGreatChecked
import GoSem.Claim
import GoSem.ClaimJoined
import GoSem.ClaimMapViews
import Derived.JoinedTies
import Derived.KernelRfl
namespace Go.Proofs.YtahdilehajdhgaaGreat
/- THE CELL 'sum', in the pinned program and in every row, IS THE sha256 OF THE DUMP (.gsa) THAT YtahdilehajdhgaaGreatProg.lean LOADS. Nothing in Lean hashes anything: it is a label: what it is worth is what the hold of that sum in a sandbox is worth. -/
noncomputable def Tryz.pinned : Pinned := { name := "ytahdilehajdhgaagreat", sum := "558b68a41f339fd4f5b12eae1c4564e51a2fbeae3f48a8037331528f56453cc7", checked := Tryz.checked }
namespace Rows
def none {H : Type} : Left H := { results := [], args := [] }

/-- 'sakialaw18.TickStays': WHATEVER THE INPUT: true; the input reads as it did. -/
def tickStaysSpec : ChangeSpec := { name := "tickStays", fn := fun _ => fun
  | [d1, d2] => { results := [.lit (.bool true)], args := [d1, d2] }
  | _ => none }
def tickStaysRow : OpenClaim := { program := "ytahdilehajdhgaagreat", sum := "558b68a41f339fd4f5b12eae1c4564e51a2fbeae3f48a8037331528f56453cc7", func := "sakia/sakialaw18.TickStays", spec := "tickStays", unfollowed := true, recurses := true, apart := false }
def TickStaysSaid : Prop := tickStaysRow.holds Tryz.pinned (OpenSpec.ofChange tickStaysSpec)

/-- ITS FALSE NEIGHBOUR: 'it returns false'. Refute it at one input. -/
def tickStaysWrong : ChangeSpec := { name := "tickStays", fn := fun _ => fun
  | [d1, d2] => { results := [.lit (.bool false)], args := [d1, d2] }
  | _ => none }
def TickStaysWrongFalsely : Prop := tickStaysRow.holds Tryz.pinned (OpenSpec.ofChange tickStaysWrong)

/-- 'sakialaw18.TickLate': WHATEVER THE INPUT: true; the input reads as it did. -/
def tickLateSpec : ChangeSpec := { name := "tickLate", fn := fun _ => fun
  | [d1, d2] => { results := [.lit (.bool true)], args := [d1, d2] }
  | _ => none }
def tickLateRow : OpenClaim := { program := "ytahdilehajdhgaagreat", sum := "558b68a41f339fd4f5b12eae1c4564e51a2fbeae3f48a8037331528f56453cc7", func := "sakia/sakialaw18.TickLate", spec := "tickLate", unfollowed := true, recurses := true, apart := false }
def TickLateSaid : Prop := tickLateRow.holds Tryz.pinned (OpenSpec.ofChange tickLateSpec)

/-- ITS FALSE NEIGHBOUR: 'it returns false'. Refute it at one input. -/
def tickLateWrong : ChangeSpec := { name := "tickLate", fn := fun _ => fun
  | [d1, d2] => { results := [.lit (.bool false)], args := [d1, d2] }
  | _ => none }
def TickLateWrongFalsely : Prop := tickLateRow.holds Tryz.pinned (OpenSpec.ofChange tickLateWrong)

/-- 'sakialaw18.TickParts': WHATEVER THE INPUT: true; the input reads as it did. -/
def tickPartsSpec : ChangeSpec := { name := "tickParts", fn := fun _ => fun
  | [d1, d2, d3] => { results := [.lit (.bool true)], args := [d1, d2, d3] }
  | _ => none }
def tickPartsRow : OpenClaim := { program := "ytahdilehajdhgaagreat", sum := "558b68a41f339fd4f5b12eae1c4564e51a2fbeae3f48a8037331528f56453cc7", func := "sakia/sakialaw18.TickParts", spec := "tickParts", unfollowed := true, recurses := true, apart := false }
def TickPartsSaid : Prop := tickPartsRow.holds Tryz.pinned (OpenSpec.ofChange tickPartsSpec)

/-- ITS FALSE NEIGHBOUR: 'it returns false'. Refute it at one input. -/
def tickPartsWrong : ChangeSpec := { name := "tickParts", fn := fun _ => fun
  | [d1, d2, d3] => { results := [.lit (.bool false)], args := [d1, d2, d3] }
  | _ => none }
def TickPartsWrongFalsely : Prop := tickPartsRow.holds Tryz.pinned (OpenSpec.ofChange tickPartsWrong)

/-- 'sakialaw18.TickNext': WHATEVER THE INPUT: true; the input reads as it did. -/
def tickNextSpec : ChangeSpec := { name := "tickNext", fn := fun _ => fun
  | [d] => { results := [.lit (.bool true)], args := [d] }
  | _ => none }
def tickNextRow : OpenClaim := { program := "ytahdilehajdhgaagreat", sum := "558b68a41f339fd4f5b12eae1c4564e51a2fbeae3f48a8037331528f56453cc7", func := "sakia/sakialaw18.TickNext", spec := "tickNext", unfollowed := true, recurses := true, apart := false }
def TickNextSaid : Prop := tickNextRow.holds Tryz.pinned (OpenSpec.ofChange tickNextSpec)

/-- ITS FALSE NEIGHBOUR: 'it returns false'. Refute it at one input. -/
def tickNextWrong : ChangeSpec := { name := "tickNext", fn := fun _ => fun
  | [d] => { results := [.lit (.bool false)], args := [d] }
  | _ => none }
def TickNextWrongFalsely : Prop := tickNextRow.holds Tryz.pinned (OpenSpec.ofChange tickNextWrong)

/-- 'sakialaw18.TickNone': WHATEVER THE INPUT: true; the input reads as it did. -/
def tickNoneSpec : ChangeSpec := { name := "tickNone", fn := fun _ => fun
  | [d1, d2] => { results := [.lit (.bool true)], args := [d1, d2] }
  | _ => none }
def tickNoneRow : OpenClaim := { program := "ytahdilehajdhgaagreat", sum := "558b68a41f339fd4f5b12eae1c4564e51a2fbeae3f48a8037331528f56453cc7", func := "sakia/sakialaw18.TickNone", spec := "tickNone", unfollowed := true, recurses := true, apart := false }
def TickNoneSaid : Prop := tickNoneRow.holds Tryz.pinned (OpenSpec.ofChange tickNoneSpec)

/-- ITS FALSE NEIGHBOUR: 'it returns false'. Refute it at one input. -/
def tickNoneWrong : ChangeSpec := { name := "tickNone", fn := fun _ => fun
  | [d1, d2] => { results := [.lit (.bool false)], args := [d1, d2] }
  | _ => none }
def TickNoneWrongFalsely : Prop := tickNoneRow.holds Tryz.pinned (OpenSpec.ofChange tickNoneWrong)

/-- 'sakialaw19.CallTells': WHATEVER THE INPUT: true; the input reads as it did. -/
def callTellsSpec : ChangeSpec := { name := "callTells", fn := fun _ => fun
  | [d1, d2, d3] => { results := [.lit (.bool true)], args := [d1, d2, d3] }
  | _ => none }
def callTellsRow : OpenClaim := { program := "ytahdilehajdhgaagreat", sum := "558b68a41f339fd4f5b12eae1c4564e51a2fbeae3f48a8037331528f56453cc7", func := "sakia/sakialaw19.CallTells", spec := "callTells", unfollowed := true, recurses := true, apart := false }
def CallTellsSaid : Prop := callTellsRow.holds Tryz.pinned (OpenSpec.ofChange callTellsSpec)

/-- ITS FALSE NEIGHBOUR: 'it returns false'. Refute it at one input. -/
def callTellsWrong : ChangeSpec := { name := "callTells", fn := fun _ => fun
  | [d1, d2, d3] => { results := [.lit (.bool false)], args := [d1, d2, d3] }
  | _ => none }
def CallTellsWrongFalsely : Prop := callTellsRow.holds Tryz.pinned (OpenSpec.ofChange callTellsWrong)

/-- 'sakialaw19.CallBack': WHATEVER THE INPUT: true; the input reads as it did. -/
def callBackSpec : ChangeSpec := { name := "callBack", fn := fun _ => fun
  | [d1, d2] => { results := [.lit (.bool true)], args := [d1, d2] }
  | _ => none }
def callBackRow : OpenClaim := { program := "ytahdilehajdhgaagreat", sum := "558b68a41f339fd4f5b12eae1c4564e51a2fbeae3f48a8037331528f56453cc7", func := "sakia/sakialaw19.CallBack", spec := "callBack", unfollowed := true, recurses := true, apart := false }
def CallBackSaid : Prop := callBackRow.holds Tryz.pinned (OpenSpec.ofChange callBackSpec)

/-- ITS FALSE NEIGHBOUR: 'it returns false'. Refute it at one input. -/
def callBackWrong : ChangeSpec := { name := "callBack", fn := fun _ => fun
  | [d1, d2] => { results := [.lit (.bool false)], args := [d1, d2] }
  | _ => none }
def CallBackWrongFalsely : Prop := callBackRow.holds Tryz.pinned (OpenSpec.ofChange callBackWrong)

/-- 'sakialaw19.CallStays': WHATEVER THE INPUT: true; the input reads as it did. -/
def callStaysSpec : ChangeSpec := { name := "callStays", fn := fun _ => fun
  | [d1, d2] => { results := [.lit (.bool true)], args := [d1, d2] }
  | _ => none }
def callStaysRow : OpenClaim := { program := "ytahdilehajdhgaagreat", sum := "558b68a41f339fd4f5b12eae1c4564e51a2fbeae3f48a8037331528f56453cc7", func := "sakia/sakialaw19.CallStays", spec := "callStays", unfollowed := true, recurses := true, apart := false }
def CallStaysSaid : Prop := callStaysRow.holds Tryz.pinned (OpenSpec.ofChange callStaysSpec)

/-- ITS FALSE NEIGHBOUR: 'it returns false'. Refute it at one input. -/
def callStaysWrong : ChangeSpec := { name := "callStays", fn := fun _ => fun
  | [d1, d2] => { results := [.lit (.bool false)], args := [d1, d2] }
  | _ => none }
def CallStaysWrongFalsely : Prop := callStaysRow.holds Tryz.pinned (OpenSpec.ofChange callStaysWrong)

/-- 'sakialaw19.CallAlone': WHATEVER THE INPUT: true; the input reads as it did. -/
def callAloneSpec : ChangeSpec := { name := "callAlone", fn := fun _ => fun
  | [d1, d2] => { results := [.lit (.bool true)], args := [d1, d2] }
  | _ => none }
def callAloneRow : OpenClaim := { program := "ytahdilehajdhgaagreat", sum := "558b68a41f339fd4f5b12eae1c4564e51a2fbeae3f48a8037331528f56453cc7", func := "sakia/sakialaw19.CallAlone", spec := "callAlone", unfollowed := true, recurses := true, apart := false }
def CallAloneSaid : Prop := callAloneRow.holds Tryz.pinned (OpenSpec.ofChange callAloneSpec)

/-- ITS FALSE NEIGHBOUR: 'it returns false'. Refute it at one input. -/
def callAloneWrong : ChangeSpec := { name := "callAlone", fn := fun _ => fun
  | [d1, d2] => { results := [.lit (.bool false)], args := [d1, d2] }
  | _ => none }
def CallAloneWrongFalsely : Prop := callAloneRow.holds Tryz.pinned (OpenSpec.ofChange callAloneWrong)

/-- 'sakialaw19.CallKinds': WHATEVER THE INPUT: true; the input reads as it did. -/
def callKindsSpec : ChangeSpec := { name := "callKinds", fn := fun _ => fun
  | [d1, d2, d3] => { results := [.lit (.bool true)], args := [d1, d2, d3] }
  | _ => none }
def callKindsRow : OpenClaim := { program := "ytahdilehajdhgaagreat", sum := "558b68a41f339fd4f5b12eae1c4564e51a2fbeae3f48a8037331528f56453cc7", func := "sakia/sakialaw19.CallKinds", spec := "callKinds", unfollowed := true, recurses := true, apart := false }
def CallKindsSaid : Prop := callKindsRow.holds Tryz.pinned (OpenSpec.ofChange callKindsSpec)

/-- ITS FALSE NEIGHBOUR: 'it returns false'. Refute it at one input. -/
def callKindsWrong : ChangeSpec := { name := "callKinds", fn := fun _ => fun
  | [d1, d2, d3] => { results := [.lit (.bool false)], args := [d1, d2, d3] }
  | _ => none }
def CallKindsWrongFalsely : Prop := callKindsRow.holds Tryz.pinned (OpenSpec.ofChange callKindsWrong)

/-- 'sakialaw23.WatchNobody': WHATEVER THE INPUT: true; the input reads as it did. -/
def watchNobodySpec : ChangeSpec := { name := "watchNobody", fn := fun _ => fun
  | [d1, d2] => { results := [.lit (.bool true)], args := [d1, d2] }
  | _ => none }
def watchNobodyRow : OpenClaim := { program := "ytahdilehajdhgaagreat", sum := "558b68a41f339fd4f5b12eae1c4564e51a2fbeae3f48a8037331528f56453cc7", func := "sakia/sakialaw23.WatchNobody", spec := "watchNobody", unfollowed := true, recurses := true, apart := false }
def WatchNobodySaid : Prop := watchNobodyRow.holds Tryz.pinned (OpenSpec.ofChange watchNobodySpec)

/-- ITS FALSE NEIGHBOUR: 'it returns false'. Refute it at one input. -/
def watchNobodyWrong : ChangeSpec := { name := "watchNobody", fn := fun _ => fun
  | [d1, d2] => { results := [.lit (.bool false)], args := [d1, d2] }
  | _ => none }
def WatchNobodyWrongFalsely : Prop := watchNobodyRow.holds Tryz.pinned (OpenSpec.ofChange watchNobodyWrong)

/- THE SECOND FORM. 'bulk': how many values and letters a reading holds, each counted each time it is reached (what is shared counts as often as it is met; a slice's spare places count too). A statement '..UptoSaid' is the law's where the arguments, and the package variables that the reading takes, are together of bulk at most 1048576: NARROWER than '..Said'. Prove '..Said' where nothing that the law and all that it calls make is longer than what came in: it says more and counts as full. Else prove '..UptoSaid'. A law counts once. -/
mutual
def uptoBulk {H : Type} : DataW H → Nat
  | .lit (.string bytes) => bytes.length + 1
  | .lit _ => 1
  | .nil => 1
  | .ptr d => uptoBulk d + 1
  | .slice elems spare => uptoBulkAll elems + uptoBulkAll spare + 1
  | .agg parts => uptoBulkAll parts + 1
  | .iface _ d => uptoBulk d + 1
  | .map entries => uptoBulkEntries entries + 1
  | .held _ => 1
def uptoBulkAll {H : Type} : List (DataW H) → Nat
  | [] => 0
  | d :: r => uptoBulk d + uptoBulkAll r
def uptoBulkEntries {H : Type} : List (Lit × DataW H) → Nat
  | [] => 0
  | x :: r => uptoBulkEntry x + uptoBulkEntries r
def uptoBulkEntry {H : Type} : Lit × DataW H → Nat
  | (.string bytes, d) => bytes.length + uptoBulk d + 1
  | (_, d) => uptoBulk d + 1
 end
def uptoSmall : (H : Type) → List (DataW H) → Bool := fun _ ds => decide (uptoBulkAll ds ≤ 1048576)
def OpenSpec.upto (s : _root_.Go.ChangeSpec) : _root_.Go.OpenSpec := { _root_.Go.OpenSpec.ofChange s with cond := some uptoSmall }

/-- 'sakialaw18.TickStays', WHERE WHAT IT READS IS OF BULK AT MOST 1048576: true; the input reads as it did. -/
def tickStaysUptoRow : OpenClaim := { program := "ytahdilehajdhgaagreat", sum := "558b68a41f339fd4f5b12eae1c4564e51a2fbeae3f48a8037331528f56453cc7", func := "sakia/sakialaw18.TickStays", spec := "tickStays", unfollowed := true, recurses := true, apart := false, narrowed := true }
def TickStaysUptoSaid : Prop := tickStaysUptoRow.holds Tryz.pinned (OpenSpec.upto tickStaysSpec)

/-- 'sakialaw18.TickLate', WHERE WHAT IT READS IS OF BULK AT MOST 1048576: true; the input reads as it did. -/
def tickLateUptoRow : OpenClaim := { program := "ytahdilehajdhgaagreat", sum := "558b68a41f339fd4f5b12eae1c4564e51a2fbeae3f48a8037331528f56453cc7", func := "sakia/sakialaw18.TickLate", spec := "tickLate", unfollowed := true, recurses := true, apart := false, narrowed := true }
def TickLateUptoSaid : Prop := tickLateUptoRow.holds Tryz.pinned (OpenSpec.upto tickLateSpec)

/-- 'sakialaw18.TickParts', WHERE WHAT IT READS IS OF BULK AT MOST 1048576: true; the input reads as it did. -/
def tickPartsUptoRow : OpenClaim := { program := "ytahdilehajdhgaagreat", sum := "558b68a41f339fd4f5b12eae1c4564e51a2fbeae3f48a8037331528f56453cc7", func := "sakia/sakialaw18.TickParts", spec := "tickParts", unfollowed := true, recurses := true, apart := false, narrowed := true }
def TickPartsUptoSaid : Prop := tickPartsUptoRow.holds Tryz.pinned (OpenSpec.upto tickPartsSpec)

/-- 'sakialaw18.TickNext', WHERE WHAT IT READS IS OF BULK AT MOST 1048576: true; the input reads as it did. -/
def tickNextUptoRow : OpenClaim := { program := "ytahdilehajdhgaagreat", sum := "558b68a41f339fd4f5b12eae1c4564e51a2fbeae3f48a8037331528f56453cc7", func := "sakia/sakialaw18.TickNext", spec := "tickNext", unfollowed := true, recurses := true, apart := false, narrowed := true }
def TickNextUptoSaid : Prop := tickNextUptoRow.holds Tryz.pinned (OpenSpec.upto tickNextSpec)

/-- 'sakialaw18.TickNone', WHERE WHAT IT READS IS OF BULK AT MOST 1048576: true; the input reads as it did. -/
def tickNoneUptoRow : OpenClaim := { program := "ytahdilehajdhgaagreat", sum := "558b68a41f339fd4f5b12eae1c4564e51a2fbeae3f48a8037331528f56453cc7", func := "sakia/sakialaw18.TickNone", spec := "tickNone", unfollowed := true, recurses := true, apart := false, narrowed := true }
def TickNoneUptoSaid : Prop := tickNoneUptoRow.holds Tryz.pinned (OpenSpec.upto tickNoneSpec)

/-- 'sakialaw19.CallTells', WHERE WHAT IT READS IS OF BULK AT MOST 1048576: true; the input reads as it did. -/
def callTellsUptoRow : OpenClaim := { program := "ytahdilehajdhgaagreat", sum := "558b68a41f339fd4f5b12eae1c4564e51a2fbeae3f48a8037331528f56453cc7", func := "sakia/sakialaw19.CallTells", spec := "callTells", unfollowed := true, recurses := true, apart := false, narrowed := true }
def CallTellsUptoSaid : Prop := callTellsUptoRow.holds Tryz.pinned (OpenSpec.upto callTellsSpec)

/-- 'sakialaw19.CallBack', WHERE WHAT IT READS IS OF BULK AT MOST 1048576: true; the input reads as it did. -/
def callBackUptoRow : OpenClaim := { program := "ytahdilehajdhgaagreat", sum := "558b68a41f339fd4f5b12eae1c4564e51a2fbeae3f48a8037331528f56453cc7", func := "sakia/sakialaw19.CallBack", spec := "callBack", unfollowed := true, recurses := true, apart := false, narrowed := true }
def CallBackUptoSaid : Prop := callBackUptoRow.holds Tryz.pinned (OpenSpec.upto callBackSpec)

/-- 'sakialaw19.CallStays', WHERE WHAT IT READS IS OF BULK AT MOST 1048576: true; the input reads as it did. -/
def callStaysUptoRow : OpenClaim := { program := "ytahdilehajdhgaagreat", sum := "558b68a41f339fd4f5b12eae1c4564e51a2fbeae3f48a8037331528f56453cc7", func := "sakia/sakialaw19.CallStays", spec := "callStays", unfollowed := true, recurses := true, apart := false, narrowed := true }
def CallStaysUptoSaid : Prop := callStaysUptoRow.holds Tryz.pinned (OpenSpec.upto callStaysSpec)

/-- 'sakialaw19.CallAlone', WHERE WHAT IT READS IS OF BULK AT MOST 1048576: true; the input reads as it did. -/
def callAloneUptoRow : OpenClaim := { program := "ytahdilehajdhgaagreat", sum := "558b68a41f339fd4f5b12eae1c4564e51a2fbeae3f48a8037331528f56453cc7", func := "sakia/sakialaw19.CallAlone", spec := "callAlone", unfollowed := true, recurses := true, apart := false, narrowed := true }
def CallAloneUptoSaid : Prop := callAloneUptoRow.holds Tryz.pinned (OpenSpec.upto callAloneSpec)

/-- 'sakialaw19.CallKinds', WHERE WHAT IT READS IS OF BULK AT MOST 1048576: true; the input reads as it did. -/
def callKindsUptoRow : OpenClaim := { program := "ytahdilehajdhgaagreat", sum := "558b68a41f339fd4f5b12eae1c4564e51a2fbeae3f48a8037331528f56453cc7", func := "sakia/sakialaw19.CallKinds", spec := "callKinds", unfollowed := true, recurses := true, apart := false, narrowed := true }
def CallKindsUptoSaid : Prop := callKindsUptoRow.holds Tryz.pinned (OpenSpec.upto callKindsSpec)

/-- 'sakialaw23.WatchNobody', WHERE WHAT IT READS IS OF BULK AT MOST 1048576: true; the input reads as it did. -/
def watchNobodyUptoRow : OpenClaim := { program := "ytahdilehajdhgaagreat", sum := "558b68a41f339fd4f5b12eae1c4564e51a2fbeae3f48a8037331528f56453cc7", func := "sakia/sakialaw23.WatchNobody", spec := "watchNobody", unfollowed := true, recurses := true, apart := false, narrowed := true }
def WatchNobodyUptoSaid : Prop := watchNobodyUptoRow.holds Tryz.pinned (OpenSpec.upto watchNobodySpec)

end Rows
end Go.Proofs.YtahdilehajdhgaaGreat
