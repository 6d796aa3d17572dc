/-
  No cell of these rows narrows 'for every input' (looked for: loops, veiled, ifaces, maps, wideKeys, modest, calm, conditions, laid).
  DERIVED. THE GIVEN ROWS OF THIS SEAT. 18 by the template 'for every input the law returns true; each argument reads behind the call as it read before'; 0 by the template 'total and deterministic' (their statements: YtojlofaafkdhgaaGreatTotals.lean).
  GIVEN WITH THE SEED: the statements are not yours to turn. If you find one false, say at which input.
  Laid BY PROGRAM, IN A SANDBOX (cutbox-rows.mjs): the forced cells as the released guide's own fill.sh prints them over the translation efea9ded85b3b1bf… (all of the seat's roots in one cut). By AI agents, Wed Nov 11 2026. No macro, syntax, notation, axiom, sorry.
-/
import Derived.Test.YtojlofaafkdhgaaGreatChecked
import GoSem.Claim
import GoSem.ClaimJoined
import GoSem.ClaimMapViews
import Derived.JoinedTies
import Derived.KernelRfl
namespace Go.Proofs.YtojlofaafkdhgaaGreat
/- THE CELL 'sum', in the pinned program and in every row, IS THE sha256 OF THE DUMP (.gsa) THAT YtojlofaafkdhgaaGreatProg.lean LOADS. Nothing in Lean hashes anything: it is a label: what it is worth is what the hold of that sum in a sandbox is worth. -/
noncomputable def Tryz.pinned : Pinned := { name := "ytojlofaafkdhgaagreat", sum := "efea9ded85b3b1bf4c09e9d4eccc5bc71420c2f17a80d59b8009d48654332306", checked := Tryz.checked }
namespace Rows
def none {H : Type} : Left H := { results := [], args := [] }

/-- 'sakialaw14.SendTells': WHATEVER THE INPUT: true; the input reads as it did. -/
def sendTellsSpec : ChangeSpec := { name := "sendTells", fn := fun _ => fun
  | [d1, d2, d3, d4] => { results := [.lit (.bool true)], args := [d1, d2, d3, d4] }
  | _ => none }
def sendTellsRow : OpenClaim := { program := "ytojlofaafkdhgaagreat", sum := "efea9ded85b3b1bf4c09e9d4eccc5bc71420c2f17a80d59b8009d48654332306", func := "sakia/sakialaw14.SendTells", spec := "sendTells", unfollowed := true, recurses := true, apart := false }
def SendTellsSaid : Prop := sendTellsRow.holds Tryz.pinned (OpenSpec.ofChange sendTellsSpec)

/-- ITS FALSE NEIGHBOUR: 'it returns false'. Refute it at one input. -/
def sendTellsWrong : ChangeSpec := { name := "sendTells", fn := fun _ => fun
  | [d1, d2, d3, d4] => { results := [.lit (.bool false)], args := [d1, d2, d3, d4] }
  | _ => none }
def SendTellsWrongFalsely : Prop := sendTellsRow.holds Tryz.pinned (OpenSpec.ofChange sendTellsWrong)

/-- 'sakialaw14.SendOne': WHATEVER THE INPUT: true; the input reads as it did. -/
def sendOneSpec : ChangeSpec := { name := "sendOne", fn := fun _ => fun
  | [d1, d2] => { results := [.lit (.bool true)], args := [d1, d2] }
  | _ => none }
def sendOneRow : OpenClaim := { program := "ytojlofaafkdhgaagreat", sum := "efea9ded85b3b1bf4c09e9d4eccc5bc71420c2f17a80d59b8009d48654332306", func := "sakia/sakialaw14.SendOne", spec := "sendOne", unfollowed := true, recurses := true, apart := false }
def SendOneSaid : Prop := sendOneRow.holds Tryz.pinned (OpenSpec.ofChange sendOneSpec)

/-- ITS FALSE NEIGHBOUR: 'it returns false'. Refute it at one input. -/
def sendOneWrong : ChangeSpec := { name := "sendOne", fn := fun _ => fun
  | [d1, d2] => { results := [.lit (.bool false)], args := [d1, d2] }
  | _ => none }
def SendOneWrongFalsely : Prop := sendOneRow.holds Tryz.pinned (OpenSpec.ofChange sendOneWrong)

/-- 'sakialaw14.SendStays': WHATEVER THE INPUT: true; the input reads as it did. -/
def sendStaysSpec : ChangeSpec := { name := "sendStays", fn := fun _ => fun
  | [d1, d2, d3] => { results := [.lit (.bool true)], args := [d1, d2, d3] }
  | _ => none }
def sendStaysRow : OpenClaim := { program := "ytojlofaafkdhgaagreat", sum := "efea9ded85b3b1bf4c09e9d4eccc5bc71420c2f17a80d59b8009d48654332306", func := "sakia/sakialaw14.SendStays", spec := "sendStays", unfollowed := true, recurses := true, apart := false }
def SendStaysSaid : Prop := sendStaysRow.holds Tryz.pinned (OpenSpec.ofChange sendStaysSpec)

/-- ITS FALSE NEIGHBOUR: 'it returns false'. Refute it at one input. -/
def sendStaysWrong : ChangeSpec := { name := "sendStays", fn := fun _ => fun
  | [d1, d2, d3] => { results := [.lit (.bool false)], args := [d1, d2, d3] }
  | _ => none }
def SendStaysWrongFalsely : Prop := sendStaysRow.holds Tryz.pinned (OpenSpec.ofChange sendStaysWrong)

/-- 'sakialaw14.SendAlone': WHATEVER THE INPUT: true; the input reads as it did. -/
def sendAloneSpec : ChangeSpec := { name := "sendAlone", fn := fun _ => fun
  | [d1, d2, d3] => { results := [.lit (.bool true)], args := [d1, d2, d3] }
  | _ => none }
def sendAloneRow : OpenClaim := { program := "ytojlofaafkdhgaagreat", sum := "efea9ded85b3b1bf4c09e9d4eccc5bc71420c2f17a80d59b8009d48654332306", func := "sakia/sakialaw14.SendAlone", spec := "sendAlone", unfollowed := true, recurses := true, apart := false }
def SendAloneSaid : Prop := sendAloneRow.holds Tryz.pinned (OpenSpec.ofChange sendAloneSpec)

/-- ITS FALSE NEIGHBOUR: 'it returns false'. Refute it at one input. -/
def sendAloneWrong : ChangeSpec := { name := "sendAlone", fn := fun _ => fun
  | [d1, d2, d3] => { results := [.lit (.bool false)], args := [d1, d2, d3] }
  | _ => none }
def SendAloneWrongFalsely : Prop := sendAloneRow.holds Tryz.pinned (OpenSpec.ofChange sendAloneWrong)

/-- 'sakialaw14.SendFull': WHATEVER THE INPUT: true; the input reads as it did. -/
def sendFullSpec : ChangeSpec := { name := "sendFull", fn := fun _ => fun
  | [d1, d2, d3] => { results := [.lit (.bool true)], args := [d1, d2, d3] }
  | _ => none }
def sendFullRow : OpenClaim := { program := "ytojlofaafkdhgaagreat", sum := "efea9ded85b3b1bf4c09e9d4eccc5bc71420c2f17a80d59b8009d48654332306", func := "sakia/sakialaw14.SendFull", spec := "sendFull", unfollowed := true, recurses := true, apart := false }
def SendFullSaid : Prop := sendFullRow.holds Tryz.pinned (OpenSpec.ofChange sendFullSpec)

/-- ITS FALSE NEIGHBOUR: 'it returns false'. Refute it at one input. -/
def sendFullWrong : ChangeSpec := { name := "sendFull", fn := fun _ => fun
  | [d1, d2, d3] => { results := [.lit (.bool false)], args := [d1, d2, d3] }
  | _ => none }
def SendFullWrongFalsely : Prop := sendFullRow.holds Tryz.pinned (OpenSpec.ofChange sendFullWrong)

/-- 'sakialaw14.SendParts': WHATEVER THE INPUT: true; the input reads as it did. -/
def sendPartsSpec : ChangeSpec := { name := "sendParts", fn := fun _ => fun
  | [d1, d2, d3, d4] => { results := [.lit (.bool true)], args := [d1, d2, d3, d4] }
  | _ => none }
def sendPartsRow : OpenClaim := { program := "ytojlofaafkdhgaagreat", sum := "efea9ded85b3b1bf4c09e9d4eccc5bc71420c2f17a80d59b8009d48654332306", func := "sakia/sakialaw14.SendParts", spec := "sendParts", unfollowed := true, recurses := true, apart := false }
def SendPartsSaid : Prop := sendPartsRow.holds Tryz.pinned (OpenSpec.ofChange sendPartsSpec)

/-- ITS FALSE NEIGHBOUR: 'it returns false'. Refute it at one input. -/
def sendPartsWrong : ChangeSpec := { name := "sendParts", fn := fun _ => fun
  | [d1, d2, d3, d4] => { results := [.lit (.bool false)], args := [d1, d2, d3, d4] }
  | _ => none }
def SendPartsWrongFalsely : Prop := sendPartsRow.holds Tryz.pinned (OpenSpec.ofChange sendPartsWrong)

/-- 'sakialaw14.SendQueue': WHATEVER THE INPUT: true; the input reads as it did. -/
def sendQueueSpec : ChangeSpec := { name := "sendQueue", fn := fun _ => fun
  | [d1, d2] => { results := [.lit (.bool true)], args := [d1, d2] }
  | _ => none }
def sendQueueRow : OpenClaim := { program := "ytojlofaafkdhgaagreat", sum := "efea9ded85b3b1bf4c09e9d4eccc5bc71420c2f17a80d59b8009d48654332306", func := "sakia/sakialaw14.SendQueue", spec := "sendQueue", unfollowed := true, recurses := true, apart := false }
def SendQueueSaid : Prop := sendQueueRow.holds Tryz.pinned (OpenSpec.ofChange sendQueueSpec)

/-- ITS FALSE NEIGHBOUR: 'it returns false'. Refute it at one input. -/
def sendQueueWrong : ChangeSpec := { name := "sendQueue", fn := fun _ => fun
  | [d1, d2] => { results := [.lit (.bool false)], args := [d1, d2] }
  | _ => none }
def SendQueueWrongFalsely : Prop := sendQueueRow.holds Tryz.pinned (OpenSpec.ofChange sendQueueWrong)

/-- 'sakialaw15.RecvTells': WHATEVER THE INPUT: true; the input reads as it did. -/
def recvTellsSpec : ChangeSpec := { name := "recvTells", fn := fun _ => fun
  | [d1, d2, d3, d4] => { results := [.lit (.bool true)], args := [d1, d2, d3, d4] }
  | _ => none }
def recvTellsRow : OpenClaim := { program := "ytojlofaafkdhgaagreat", sum := "efea9ded85b3b1bf4c09e9d4eccc5bc71420c2f17a80d59b8009d48654332306", func := "sakia/sakialaw15.RecvTells", spec := "recvTells", unfollowed := true, recurses := true, apart := false }
def RecvTellsSaid : Prop := recvTellsRow.holds Tryz.pinned (OpenSpec.ofChange recvTellsSpec)

/-- ITS FALSE NEIGHBOUR: 'it returns false'. Refute it at one input. -/
def recvTellsWrong : ChangeSpec := { name := "recvTells", fn := fun _ => fun
  | [d1, d2, d3, d4] => { results := [.lit (.bool false)], args := [d1, d2, d3, d4] }
  | _ => none }
def RecvTellsWrongFalsely : Prop := recvTellsRow.holds Tryz.pinned (OpenSpec.ofChange recvTellsWrong)

/-- 'sakialaw15.RecvOne': WHATEVER THE INPUT: true; the input reads as it did. -/
def recvOneSpec : ChangeSpec := { name := "recvOne", fn := fun _ => fun
  | [d1, d2] => { results := [.lit (.bool true)], args := [d1, d2] }
  | _ => none }
def recvOneRow : OpenClaim := { program := "ytojlofaafkdhgaagreat", sum := "efea9ded85b3b1bf4c09e9d4eccc5bc71420c2f17a80d59b8009d48654332306", func := "sakia/sakialaw15.RecvOne", spec := "recvOne", unfollowed := true, recurses := true, apart := false }
def RecvOneSaid : Prop := recvOneRow.holds Tryz.pinned (OpenSpec.ofChange recvOneSpec)

/-- ITS FALSE NEIGHBOUR: 'it returns false'. Refute it at one input. -/
def recvOneWrong : ChangeSpec := { name := "recvOne", fn := fun _ => fun
  | [d1, d2] => { results := [.lit (.bool false)], args := [d1, d2] }
  | _ => none }
def RecvOneWrongFalsely : Prop := recvOneRow.holds Tryz.pinned (OpenSpec.ofChange recvOneWrong)

/-- 'sakialaw15.RecvStays': WHATEVER THE INPUT: true; the input reads as it did. -/
def recvStaysSpec : ChangeSpec := { name := "recvStays", fn := fun _ => fun
  | [d1, d2, d3] => { results := [.lit (.bool true)], args := [d1, d2, d3] }
  | _ => none }
def recvStaysRow : OpenClaim := { program := "ytojlofaafkdhgaagreat", sum := "efea9ded85b3b1bf4c09e9d4eccc5bc71420c2f17a80d59b8009d48654332306", func := "sakia/sakialaw15.RecvStays", spec := "recvStays", unfollowed := true, recurses := true, apart := false }
def RecvStaysSaid : Prop := recvStaysRow.holds Tryz.pinned (OpenSpec.ofChange recvStaysSpec)

/-- ITS FALSE NEIGHBOUR: 'it returns false'. Refute it at one input. -/
def recvStaysWrong : ChangeSpec := { name := "recvStays", fn := fun _ => fun
  | [d1, d2, d3] => { results := [.lit (.bool false)], args := [d1, d2, d3] }
  | _ => none }
def RecvStaysWrongFalsely : Prop := recvStaysRow.holds Tryz.pinned (OpenSpec.ofChange recvStaysWrong)

/-- 'sakialaw15.RecvAll': WHATEVER THE INPUT: true; the input reads as it did. -/
def recvAllSpec : ChangeSpec := { name := "recvAll", fn := fun _ => fun
  | [d1, d2, d3] => { results := [.lit (.bool true)], args := [d1, d2, d3] }
  | _ => none }
def recvAllRow : OpenClaim := { program := "ytojlofaafkdhgaagreat", sum := "efea9ded85b3b1bf4c09e9d4eccc5bc71420c2f17a80d59b8009d48654332306", func := "sakia/sakialaw15.RecvAll", spec := "recvAll", unfollowed := true, recurses := true, apart := false }
def RecvAllSaid : Prop := recvAllRow.holds Tryz.pinned (OpenSpec.ofChange recvAllSpec)

/-- ITS FALSE NEIGHBOUR: 'it returns false'. Refute it at one input. -/
def recvAllWrong : ChangeSpec := { name := "recvAll", fn := fun _ => fun
  | [d1, d2, d3] => { results := [.lit (.bool false)], args := [d1, d2, d3] }
  | _ => none }
def RecvAllWrongFalsely : Prop := recvAllRow.holds Tryz.pinned (OpenSpec.ofChange recvAllWrong)

/-- 'sakialaw15.RecvReads': WHATEVER THE INPUT: true; the input reads as it did. -/
def recvReadsSpec : ChangeSpec := { name := "recvReads", fn := fun _ => fun
  | [d1, d2] => { results := [.lit (.bool true)], args := [d1, d2] }
  | _ => none }
def recvReadsRow : OpenClaim := { program := "ytojlofaafkdhgaagreat", sum := "efea9ded85b3b1bf4c09e9d4eccc5bc71420c2f17a80d59b8009d48654332306", func := "sakia/sakialaw15.RecvReads", spec := "recvReads", unfollowed := true, recurses := true, apart := false }
def RecvReadsSaid : Prop := recvReadsRow.holds Tryz.pinned (OpenSpec.ofChange recvReadsSpec)

/-- ITS FALSE NEIGHBOUR: 'it returns false'. Refute it at one input. -/
def recvReadsWrong : ChangeSpec := { name := "recvReads", fn := fun _ => fun
  | [d1, d2] => { results := [.lit (.bool false)], args := [d1, d2] }
  | _ => none }
def RecvReadsWrongFalsely : Prop := recvReadsRow.holds Tryz.pinned (OpenSpec.ofChange recvReadsWrong)

/-- 'sakialaw15.RecvParts': WHATEVER THE INPUT: true; the input reads as it did. -/
def recvPartsSpec : ChangeSpec := { name := "recvParts", fn := fun _ => fun
  | [d1, d2, d3, d4] => { results := [.lit (.bool true)], args := [d1, d2, d3, d4] }
  | _ => none }
def recvPartsRow : OpenClaim := { program := "ytojlofaafkdhgaagreat", sum := "efea9ded85b3b1bf4c09e9d4eccc5bc71420c2f17a80d59b8009d48654332306", func := "sakia/sakialaw15.RecvParts", spec := "recvParts", unfollowed := true, recurses := true, apart := false }
def RecvPartsSaid : Prop := recvPartsRow.holds Tryz.pinned (OpenSpec.ofChange recvPartsSpec)

/-- ITS FALSE NEIGHBOUR: 'it returns false'. Refute it at one input. -/
def recvPartsWrong : ChangeSpec := { name := "recvParts", fn := fun _ => fun
  | [d1, d2, d3, d4] => { results := [.lit (.bool false)], args := [d1, d2, d3, d4] }
  | _ => none }
def RecvPartsWrongFalsely : Prop := recvPartsRow.holds Tryz.pinned (OpenSpec.ofChange recvPartsWrong)

/-- 'sakialaw17.StepStays': WHATEVER THE INPUT: true; the input reads as it did. -/
def stepStaysSpec : ChangeSpec := { name := "stepStays", fn := fun _ => fun
  | [d1, d2] => { results := [.lit (.bool true)], args := [d1, d2] }
  | _ => none }
def stepStaysRow : OpenClaim := { program := "ytojlofaafkdhgaagreat", sum := "efea9ded85b3b1bf4c09e9d4eccc5bc71420c2f17a80d59b8009d48654332306", func := "sakia/sakialaw17.StepStays", spec := "stepStays", unfollowed := true, recurses := true, apart := false }
def StepStaysSaid : Prop := stepStaysRow.holds Tryz.pinned (OpenSpec.ofChange stepStaysSpec)

/-- ITS FALSE NEIGHBOUR: 'it returns false'. Refute it at one input. -/
def stepStaysWrong : ChangeSpec := { name := "stepStays", fn := fun _ => fun
  | [d1, d2] => { results := [.lit (.bool false)], args := [d1, d2] }
  | _ => none }
def StepStaysWrongFalsely : Prop := stepStaysRow.holds Tryz.pinned (OpenSpec.ofChange stepStaysWrong)

/-- 'sakialaw17.StepSome': WHATEVER THE INPUT: true; the input reads as it did. -/
def stepSomeSpec : ChangeSpec := { name := "stepSome", fn := fun _ => fun
  | [d1, d2, d3] => { results := [.lit (.bool true)], args := [d1, d2, d3] }
  | _ => none }
def stepSomeRow : OpenClaim := { program := "ytojlofaafkdhgaagreat", sum := "efea9ded85b3b1bf4c09e9d4eccc5bc71420c2f17a80d59b8009d48654332306", func := "sakia/sakialaw17.StepSome", spec := "stepSome", unfollowed := true, recurses := true, apart := false }
def StepSomeSaid : Prop := stepSomeRow.holds Tryz.pinned (OpenSpec.ofChange stepSomeSpec)

/-- ITS FALSE NEIGHBOUR: 'it returns false'. Refute it at one input. -/
def stepSomeWrong : ChangeSpec := { name := "stepSome", fn := fun _ => fun
  | [d1, d2, d3] => { results := [.lit (.bool false)], args := [d1, d2, d3] }
  | _ => none }
def StepSomeWrongFalsely : Prop := stepSomeRow.holds Tryz.pinned (OpenSpec.ofChange stepSomeWrong)

/-- 'sakialaw17.StepActive': WHATEVER THE INPUT: true; the input reads as it did. -/
def stepActiveSpec : ChangeSpec := { name := "stepActive", fn := fun _ => fun
  | [d1, d2] => { results := [.lit (.bool true)], args := [d1, d2] }
  | _ => none }
def stepActiveRow : OpenClaim := { program := "ytojlofaafkdhgaagreat", sum := "efea9ded85b3b1bf4c09e9d4eccc5bc71420c2f17a80d59b8009d48654332306", func := "sakia/sakialaw17.StepActive", spec := "stepActive", unfollowed := true, recurses := true, apart := false }
def StepActiveSaid : Prop := stepActiveRow.holds Tryz.pinned (OpenSpec.ofChange stepActiveSpec)

/-- ITS FALSE NEIGHBOUR: 'it returns false'. Refute it at one input. -/
def stepActiveWrong : ChangeSpec := { name := "stepActive", fn := fun _ => fun
  | [d1, d2] => { results := [.lit (.bool false)], args := [d1, d2] }
  | _ => none }
def StepActiveWrongFalsely : Prop := stepActiveRow.holds Tryz.pinned (OpenSpec.ofChange stepActiveWrong)

/-- 'sakialaw17.StepAll': WHATEVER THE INPUT: true; the input reads as it did. -/
def stepAllSpec : ChangeSpec := { name := "stepAll", fn := fun _ => fun
  | [d] => { results := [.lit (.bool true)], args := [d] }
  | _ => none }
def stepAllRow : OpenClaim := { program := "ytojlofaafkdhgaagreat", sum := "efea9ded85b3b1bf4c09e9d4eccc5bc71420c2f17a80d59b8009d48654332306", func := "sakia/sakialaw17.StepAll", spec := "stepAll", unfollowed := true, recurses := true, apart := false }
def StepAllSaid : Prop := stepAllRow.holds Tryz.pinned (OpenSpec.ofChange stepAllSpec)

/-- ITS FALSE NEIGHBOUR: 'it returns false'. Refute it at one input. -/
def stepAllWrong : ChangeSpec := { name := "stepAll", fn := fun _ => fun
  | [d] => { results := [.lit (.bool false)], args := [d] }
  | _ => none }
def StepAllWrongFalsely : Prop := stepAllRow.holds Tryz.pinned (OpenSpec.ofChange stepAllWrong)

/-- 'sakialaw15.RecvQueue': WHATEVER THE INPUT: true; the input reads as it did. -/
def recvQueueSpec : ChangeSpec := { name := "recvQueue", fn := fun _ => fun
  | [d1, d2] => { results := [.lit (.bool true)], args := [d1, d2] }
  | _ => none }
def recvQueueRow : OpenClaim := { program := "ytojlofaafkdhgaagreat", sum := "efea9ded85b3b1bf4c09e9d4eccc5bc71420c2f17a80d59b8009d48654332306", func := "sakia/sakialaw15.RecvQueue", spec := "recvQueue", unfollowed := true, recurses := true, apart := false }
def RecvQueueSaid : Prop := recvQueueRow.holds Tryz.pinned (OpenSpec.ofChange recvQueueSpec)

/-- ITS FALSE NEIGHBOUR: 'it returns false'. Refute it at one input. -/
def recvQueueWrong : ChangeSpec := { name := "recvQueue", fn := fun _ => fun
  | [d1, d2] => { results := [.lit (.bool false)], args := [d1, d2] }
  | _ => none }
def RecvQueueWrongFalsely : Prop := recvQueueRow.holds Tryz.pinned (OpenSpec.ofChange recvQueueWrong)

/- THE SECOND FORM. 'bulk': how many values and letters a reading holds, each counted each time it is reached (what is shared counts as often as it is met; a slice's spare places count too). A statement '..UptoSaid' is the law's where the arguments, and the package variables that the reading takes, are together of bulk at most 1048576: NARROWER than '..Said'. Prove '..Said' where nothing that the law and all that it calls make is longer than what came in: it says more and counts as full. Else prove '..UptoSaid'. A law counts once. -/
mutual
def uptoBulk {H : Type} : DataW H → Nat
  | .lit (.string bytes) => bytes.length + 1
  | .lit _ => 1
  | .nil => 1
  | .ptr d => uptoBulk d + 1
  | .slice elems spare => uptoBulkAll elems + uptoBulkAll spare + 1
  | .agg parts => uptoBulkAll parts + 1
  | .iface _ d => uptoBulk d + 1
  | .map entries => uptoBulkEntries entries + 1
  | .held _ => 1
def uptoBulkAll {H : Type} : List (DataW H) → Nat
  | [] => 0
  | d :: r => uptoBulk d + uptoBulkAll r
def uptoBulkEntries {H : Type} : List (Lit × DataW H) → Nat
  | [] => 0
  | x :: r => uptoBulkEntry x + uptoBulkEntries r
def uptoBulkEntry {H : Type} : Lit × DataW H → Nat
  | (.string bytes, d) => bytes.length + uptoBulk d + 1
  | (_, d) => uptoBulk d + 1
 end
def uptoSmall : (H : Type) → List (DataW H) → Bool := fun _ ds => decide (uptoBulkAll ds ≤ 1048576)
def OpenSpec.upto (s : _root_.Go.ChangeSpec) : _root_.Go.OpenSpec := { _root_.Go.OpenSpec.ofChange s with cond := some uptoSmall }

/-- 'sakialaw14.SendTells', WHERE WHAT IT READS IS OF BULK AT MOST 1048576: true; the input reads as it did. -/
def sendTellsUptoRow : OpenClaim := { program := "ytojlofaafkdhgaagreat", sum := "efea9ded85b3b1bf4c09e9d4eccc5bc71420c2f17a80d59b8009d48654332306", func := "sakia/sakialaw14.SendTells", spec := "sendTells", unfollowed := true, recurses := true, apart := false, narrowed := true }
def SendTellsUptoSaid : Prop := sendTellsUptoRow.holds Tryz.pinned (OpenSpec.upto sendTellsSpec)

/-- 'sakialaw14.SendOne', WHERE WHAT IT READS IS OF BULK AT MOST 1048576: true; the input reads as it did. -/
def sendOneUptoRow : OpenClaim := { program := "ytojlofaafkdhgaagreat", sum := "efea9ded85b3b1bf4c09e9d4eccc5bc71420c2f17a80d59b8009d48654332306", func := "sakia/sakialaw14.SendOne", spec := "sendOne", unfollowed := true, recurses := true, apart := false, narrowed := true }
def SendOneUptoSaid : Prop := sendOneUptoRow.holds Tryz.pinned (OpenSpec.upto sendOneSpec)

/-- 'sakialaw14.SendStays', WHERE WHAT IT READS IS OF BULK AT MOST 1048576: true; the input reads as it did. -/
def sendStaysUptoRow : OpenClaim := { program := "ytojlofaafkdhgaagreat", sum := "efea9ded85b3b1bf4c09e9d4eccc5bc71420c2f17a80d59b8009d48654332306", func := "sakia/sakialaw14.SendStays", spec := "sendStays", unfollowed := true, recurses := true, apart := false, narrowed := true }
def SendStaysUptoSaid : Prop := sendStaysUptoRow.holds Tryz.pinned (OpenSpec.upto sendStaysSpec)

/-- 'sakialaw14.SendAlone', WHERE WHAT IT READS IS OF BULK AT MOST 1048576: true; the input reads as it did. -/
def sendAloneUptoRow : OpenClaim := { program := "ytojlofaafkdhgaagreat", sum := "efea9ded85b3b1bf4c09e9d4eccc5bc71420c2f17a80d59b8009d48654332306", func := "sakia/sakialaw14.SendAlone", spec := "sendAlone", unfollowed := true, recurses := true, apart := false, narrowed := true }
def SendAloneUptoSaid : Prop := sendAloneUptoRow.holds Tryz.pinned (OpenSpec.upto sendAloneSpec)

/-- 'sakialaw14.SendFull', WHERE WHAT IT READS IS OF BULK AT MOST 1048576: true; the input reads as it did. -/
def sendFullUptoRow : OpenClaim := { program := "ytojlofaafkdhgaagreat", sum := "efea9ded85b3b1bf4c09e9d4eccc5bc71420c2f17a80d59b8009d48654332306", func := "sakia/sakialaw14.SendFull", spec := "sendFull", unfollowed := true, recurses := true, apart := false, narrowed := true }
def SendFullUptoSaid : Prop := sendFullUptoRow.holds Tryz.pinned (OpenSpec.upto sendFullSpec)

/-- 'sakialaw14.SendParts', WHERE WHAT IT READS IS OF BULK AT MOST 1048576: true; the input reads as it did. -/
def sendPartsUptoRow : OpenClaim := { program := "ytojlofaafkdhgaagreat", sum := "efea9ded85b3b1bf4c09e9d4eccc5bc71420c2f17a80d59b8009d48654332306", func := "sakia/sakialaw14.SendParts", spec := "sendParts", unfollowed := true, recurses := true, apart := false, narrowed := true }
def SendPartsUptoSaid : Prop := sendPartsUptoRow.holds Tryz.pinned (OpenSpec.upto sendPartsSpec)

/-- 'sakialaw14.SendQueue', WHERE WHAT IT READS IS OF BULK AT MOST 1048576: true; the input reads as it did. -/
def sendQueueUptoRow : OpenClaim := { program := "ytojlofaafkdhgaagreat", sum := "efea9ded85b3b1bf4c09e9d4eccc5bc71420c2f17a80d59b8009d48654332306", func := "sakia/sakialaw14.SendQueue", spec := "sendQueue", unfollowed := true, recurses := true, apart := false, narrowed := true }
def SendQueueUptoSaid : Prop := sendQueueUptoRow.holds Tryz.pinned (OpenSpec.upto sendQueueSpec)

/-- 'sakialaw15.RecvTells', WHERE WHAT IT READS IS OF BULK AT MOST 1048576: true; the input reads as it did. -/
def recvTellsUptoRow : OpenClaim := { program := "ytojlofaafkdhgaagreat", sum := "efea9ded85b3b1bf4c09e9d4eccc5bc71420c2f17a80d59b8009d48654332306", func := "sakia/sakialaw15.RecvTells", spec := "recvTells", unfollowed := true, recurses := true, apart := false, narrowed := true }
def RecvTellsUptoSaid : Prop := recvTellsUptoRow.holds Tryz.pinned (OpenSpec.upto recvTellsSpec)

/-- 'sakialaw15.RecvOne', WHERE WHAT IT READS IS OF BULK AT MOST 1048576: true; the input reads as it did. -/
def recvOneUptoRow : OpenClaim := { program := "ytojlofaafkdhgaagreat", sum := "efea9ded85b3b1bf4c09e9d4eccc5bc71420c2f17a80d59b8009d48654332306", func := "sakia/sakialaw15.RecvOne", spec := "recvOne", unfollowed := true, recurses := true, apart := false, narrowed := true }
def RecvOneUptoSaid : Prop := recvOneUptoRow.holds Tryz.pinned (OpenSpec.upto recvOneSpec)

/-- 'sakialaw15.RecvStays', WHERE WHAT IT READS IS OF BULK AT MOST 1048576: true; the input reads as it did. -/
def recvStaysUptoRow : OpenClaim := { program := "ytojlofaafkdhgaagreat", sum := "efea9ded85b3b1bf4c09e9d4eccc5bc71420c2f17a80d59b8009d48654332306", func := "sakia/sakialaw15.RecvStays", spec := "recvStays", unfollowed := true, recurses := true, apart := false, narrowed := true }
def RecvStaysUptoSaid : Prop := recvStaysUptoRow.holds Tryz.pinned (OpenSpec.upto recvStaysSpec)

/-- 'sakialaw15.RecvAll', WHERE WHAT IT READS IS OF BULK AT MOST 1048576: true; the input reads as it did. -/
def recvAllUptoRow : OpenClaim := { program := "ytojlofaafkdhgaagreat", sum := "efea9ded85b3b1bf4c09e9d4eccc5bc71420c2f17a80d59b8009d48654332306", func := "sakia/sakialaw15.RecvAll", spec := "recvAll", unfollowed := true, recurses := true, apart := false, narrowed := true }
def RecvAllUptoSaid : Prop := recvAllUptoRow.holds Tryz.pinned (OpenSpec.upto recvAllSpec)

/-- 'sakialaw15.RecvReads', WHERE WHAT IT READS IS OF BULK AT MOST 1048576: true; the input reads as it did. -/
def recvReadsUptoRow : OpenClaim := { program := "ytojlofaafkdhgaagreat", sum := "efea9ded85b3b1bf4c09e9d4eccc5bc71420c2f17a80d59b8009d48654332306", func := "sakia/sakialaw15.RecvReads", spec := "recvReads", unfollowed := true, recurses := true, apart := false, narrowed := true }
def RecvReadsUptoSaid : Prop := recvReadsUptoRow.holds Tryz.pinned (OpenSpec.upto recvReadsSpec)

/-- 'sakialaw15.RecvParts', WHERE WHAT IT READS IS OF BULK AT MOST 1048576: true; the input reads as it did. -/
def recvPartsUptoRow : OpenClaim := { program := "ytojlofaafkdhgaagreat", sum := "efea9ded85b3b1bf4c09e9d4eccc5bc71420c2f17a80d59b8009d48654332306", func := "sakia/sakialaw15.RecvParts", spec := "recvParts", unfollowed := true, recurses := true, apart := false, narrowed := true }
def RecvPartsUptoSaid : Prop := recvPartsUptoRow.holds Tryz.pinned (OpenSpec.upto recvPartsSpec)

/-- 'sakialaw17.StepStays', WHERE WHAT IT READS IS OF BULK AT MOST 1048576: true; the input reads as it did. -/
def stepStaysUptoRow : OpenClaim := { program := "ytojlofaafkdhgaagreat", sum := "efea9ded85b3b1bf4c09e9d4eccc5bc71420c2f17a80d59b8009d48654332306", func := "sakia/sakialaw17.StepStays", spec := "stepStays", unfollowed := true, recurses := true, apart := false, narrowed := true }
def StepStaysUptoSaid : Prop := stepStaysUptoRow.holds Tryz.pinned (OpenSpec.upto stepStaysSpec)

/-- 'sakialaw17.StepSome', WHERE WHAT IT READS IS OF BULK AT MOST 1048576: true; the input reads as it did. -/
def stepSomeUptoRow : OpenClaim := { program := "ytojlofaafkdhgaagreat", sum := "efea9ded85b3b1bf4c09e9d4eccc5bc71420c2f17a80d59b8009d48654332306", func := "sakia/sakialaw17.StepSome", spec := "stepSome", unfollowed := true, recurses := true, apart := false, narrowed := true }
def StepSomeUptoSaid : Prop := stepSomeUptoRow.holds Tryz.pinned (OpenSpec.upto stepSomeSpec)

/-- 'sakialaw17.StepActive', WHERE WHAT IT READS IS OF BULK AT MOST 1048576: true; the input reads as it did. -/
def stepActiveUptoRow : OpenClaim := { program := "ytojlofaafkdhgaagreat", sum := "efea9ded85b3b1bf4c09e9d4eccc5bc71420c2f17a80d59b8009d48654332306", func := "sakia/sakialaw17.StepActive", spec := "stepActive", unfollowed := true, recurses := true, apart := false, narrowed := true }
def StepActiveUptoSaid : Prop := stepActiveUptoRow.holds Tryz.pinned (OpenSpec.upto stepActiveSpec)

/-- 'sakialaw17.StepAll', WHERE WHAT IT READS IS OF BULK AT MOST 1048576: true; the input reads as it did. -/
def stepAllUptoRow : OpenClaim := { program := "ytojlofaafkdhgaagreat", sum := "efea9ded85b3b1bf4c09e9d4eccc5bc71420c2f17a80d59b8009d48654332306", func := "sakia/sakialaw17.StepAll", spec := "stepAll", unfollowed := true, recurses := true, apart := false, narrowed := true }
def StepAllUptoSaid : Prop := stepAllUptoRow.holds Tryz.pinned (OpenSpec.upto stepAllSpec)

/-- 'sakialaw15.RecvQueue', WHERE WHAT IT READS IS OF BULK AT MOST 1048576: true; the input reads as it did. -/
def recvQueueUptoRow : OpenClaim := { program := "ytojlofaafkdhgaagreat", sum := "efea9ded85b3b1bf4c09e9d4eccc5bc71420c2f17a80d59b8009d48654332306", func := "sakia/sakialaw15.RecvQueue", spec := "recvQueue", unfollowed := true, recurses := true, apart := false, narrowed := true }
def RecvQueueUptoSaid : Prop := recvQueueUptoRow.holds Tryz.pinned (OpenSpec.upto recvQueueSpec)

end Rows
end Go.Proofs.YtojlofaafkdhgaaGreat
