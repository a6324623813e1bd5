/-
  No cell of these rows narrows 'for every input' (looked for: loops, veiled, ifaces, maps, wideKeys, modest, calm, conditions, laid).
  DERIVED. THE GIVEN ROWS OF THIS SEAT. 9 by the template 'for every input the law returns true; each argument reads behind the call as it read before'; 0 by the template 'total and deterministic' (their statements: YtepoalgoombpeaaTotals.lean).
  GIVEN WITH THE SEED: the statements are not yours to turn. If you find one false, say at which input.
  Laid BY PROGRAM, IN A SANDBOX (cutbox-rows.mjs): the forced cells as the released guide's own fill.sh prints them over the translation 189d5eb6272c5226… (all of the seat's roots in one cut). By AI agents, Wed Nov 11 2026. No macro, syntax, notation, axiom, sorry.
-/
import Derived.Test.YtepoalgoombpeaaChecked
import GoSem.Claim
import GoSem.ClaimJoined
import GoSem.ClaimMapViews
import Derived.JoinedTies
import Derived.KernelRfl
namespace Go.Proofs.Ytepoalgoombpeaa
/- THE CELL 'sum', in the pinned program and in every row, IS THE sha256 OF THE DUMP (.gsa) THAT YtepoalgoombpeaaProg.lean LOADS. Nothing in Lean hashes anything: it is a label: what it is worth is what the hold of that sum in a sandbox is worth. -/
noncomputable def Try.pinned : Pinned := { name := "ytepoalgoombpeaa", sum := "189d5eb6272c5226da3497378af64be36a9ef53b79328ef7fb33b36710c0510e", checked := Try.checked }
namespace Rows
def none {H : Type} : Left H := { results := [], args := [] }

/-- 'heirloomlaw04.ObjectHeads': WHATEVER THE INPUT: true; the input reads as it did. -/
def objectHeadsSpec : ChangeSpec := { name := "objectHeads", fn := fun _ => fun
  | [d1, d2, d3] => { results := [.lit (.bool true)], args := [d1, d2, d3] }
  | _ => none }
def objectHeadsRow : OpenClaim := { program := "ytepoalgoombpeaa", sum := "189d5eb6272c5226da3497378af64be36a9ef53b79328ef7fb33b36710c0510e", func := "heirloom/heirloomlaw04.ObjectHeads", spec := "objectHeads", inPlace := ["math.Float64frombits"], unfollowed := true, recurses := true, apart := false }
def ObjectHeadsSaid : Prop := objectHeadsRow.holds Try.pinned (OpenSpec.ofChange objectHeadsSpec)

/-- ITS FALSE NEIGHBOUR: 'it returns false'. Refute it at one input. -/
def objectHeadsWrong : ChangeSpec := { name := "objectHeads", fn := fun _ => fun
  | [d1, d2, d3] => { results := [.lit (.bool false)], args := [d1, d2, d3] }
  | _ => none }
def ObjectHeadsWrongFalsely : Prop := objectHeadsRow.holds Try.pinned (OpenSpec.ofChange objectHeadsWrong)

/-- 'heirloomlaw04.ObjectValues': WHATEVER THE INPUT: true; the input reads as it did. -/
def objectValuesSpec : ChangeSpec := { name := "objectValues", fn := fun _ => fun
  | [d] => { results := [.lit (.bool true)], args := [d] }
  | _ => none }
def objectValuesRow : OpenClaim := { program := "ytepoalgoombpeaa", sum := "189d5eb6272c5226da3497378af64be36a9ef53b79328ef7fb33b36710c0510e", func := "heirloom/heirloomlaw04.ObjectValues", spec := "objectValues", inPlace := ["math.Float64frombits"], unfollowed := true, recurses := true, apart := false }
def ObjectValuesSaid : Prop := objectValuesRow.holds Try.pinned (OpenSpec.ofChange objectValuesSpec)

/-- ITS FALSE NEIGHBOUR: 'it returns false'. Refute it at one input. -/
def objectValuesWrong : ChangeSpec := { name := "objectValues", fn := fun _ => fun
  | [d] => { results := [.lit (.bool false)], args := [d] }
  | _ => none }
def ObjectValuesWrongFalsely : Prop := objectValuesRow.holds Try.pinned (OpenSpec.ofChange objectValuesWrong)

/-- 'heirloomlaw04.ObjectCells': WHATEVER THE INPUT: true; the input reads as it did. -/
def objectCellsSpec : ChangeSpec := { name := "objectCells", fn := fun _ => fun
  | [d] => { results := [.lit (.bool true)], args := [d] }
  | _ => none }
def objectCellsRow : OpenClaim := { program := "ytepoalgoombpeaa", sum := "189d5eb6272c5226da3497378af64be36a9ef53b79328ef7fb33b36710c0510e", func := "heirloom/heirloomlaw04.ObjectCells", spec := "objectCells", inPlace := ["math.Float64frombits"], unfollowed := true, recurses := true, apart := false }
def ObjectCellsSaid : Prop := objectCellsRow.holds Try.pinned (OpenSpec.ofChange objectCellsSpec)

/-- ITS FALSE NEIGHBOUR: 'it returns false'. Refute it at one input. -/
def objectCellsWrong : ChangeSpec := { name := "objectCells", fn := fun _ => fun
  | [d] => { results := [.lit (.bool false)], args := [d] }
  | _ => none }
def ObjectCellsWrongFalsely : Prop := objectCellsRow.holds Try.pinned (OpenSpec.ofChange objectCellsWrong)

/-- 'heirloomlaw04.ObjectReads': WHATEVER THE INPUT: true; the input reads as it did. -/
def objectReadsSpec : ChangeSpec := { name := "objectReads", fn := fun _ => fun
  | [d] => { results := [.lit (.bool true)], args := [d] }
  | _ => none }
def objectReadsRow : OpenClaim := { program := "ytepoalgoombpeaa", sum := "189d5eb6272c5226da3497378af64be36a9ef53b79328ef7fb33b36710c0510e", func := "heirloom/heirloomlaw04.ObjectReads", spec := "objectReads", inPlace := ["math.Float64frombits"], unfollowed := true, recurses := true, apart := false }
def ObjectReadsSaid : Prop := objectReadsRow.holds Try.pinned (OpenSpec.ofChange objectReadsSpec)

/-- ITS FALSE NEIGHBOUR: 'it returns false'. Refute it at one input. -/
def objectReadsWrong : ChangeSpec := { name := "objectReads", fn := fun _ => fun
  | [d] => { results := [.lit (.bool false)], args := [d] }
  | _ => none }
def ObjectReadsWrongFalsely : Prop := objectReadsRow.holds Try.pinned (OpenSpec.ofChange objectReadsWrong)

/-- 'heirloomlaw04.ObjectLayouts': WHATEVER THE INPUT: true; the input reads as it did. -/
def objectLayoutsSpec : ChangeSpec := { name := "objectLayouts", fn := fun _ => fun
  | [d] => { results := [.lit (.bool true)], args := [d] }
  | _ => none }
def objectLayoutsRow : OpenClaim := { program := "ytepoalgoombpeaa", sum := "189d5eb6272c5226da3497378af64be36a9ef53b79328ef7fb33b36710c0510e", func := "heirloom/heirloomlaw04.ObjectLayouts", spec := "objectLayouts", inPlace := ["math.Float64frombits"], unfollowed := true, recurses := true, apart := false }
def ObjectLayoutsSaid : Prop := objectLayoutsRow.holds Try.pinned (OpenSpec.ofChange objectLayoutsSpec)

/-- ITS FALSE NEIGHBOUR: 'it returns false'. Refute it at one input. -/
def objectLayoutsWrong : ChangeSpec := { name := "objectLayouts", fn := fun _ => fun
  | [d] => { results := [.lit (.bool false)], args := [d] }
  | _ => none }
def ObjectLayoutsWrongFalsely : Prop := objectLayoutsRow.holds Try.pinned (OpenSpec.ofChange objectLayoutsWrong)

/-- 'heirloomlaw04.ObjectBack': WHATEVER THE INPUT: true; the input reads as it did. -/
def objectBackSpec : ChangeSpec := { name := "objectBack", fn := fun _ => fun
  | [d] => { results := [.lit (.bool true)], args := [d] }
  | _ => none }
def objectBackRow : OpenClaim := { program := "ytepoalgoombpeaa", sum := "189d5eb6272c5226da3497378af64be36a9ef53b79328ef7fb33b36710c0510e", func := "heirloom/heirloomlaw04.ObjectBack", spec := "objectBack", inPlace := ["math.Float64frombits"], unfollowed := true, recurses := true, apart := false }
def ObjectBackSaid : Prop := objectBackRow.holds Try.pinned (OpenSpec.ofChange objectBackSpec)

/-- ITS FALSE NEIGHBOUR: 'it returns false'. Refute it at one input. -/
def objectBackWrong : ChangeSpec := { name := "objectBack", fn := fun _ => fun
  | [d] => { results := [.lit (.bool false)], args := [d] }
  | _ => none }
def ObjectBackWrongFalsely : Prop := objectBackRow.holds Try.pinned (OpenSpec.ofChange objectBackWrong)

/-- 'heirloomlaw04.ObjectOne': WHATEVER THE INPUT: true; the input reads as it did. -/
def objectOneSpec : ChangeSpec := { name := "objectOne", fn := fun _ => fun
  | [d] => { results := [.lit (.bool true)], args := [d] }
  | _ => none }
def objectOneRow : OpenClaim := { program := "ytepoalgoombpeaa", sum := "189d5eb6272c5226da3497378af64be36a9ef53b79328ef7fb33b36710c0510e", func := "heirloom/heirloomlaw04.ObjectOne", spec := "objectOne", inPlace := ["math.Float64frombits"], unfollowed := true, recurses := true, apart := false }
def ObjectOneSaid : Prop := objectOneRow.holds Try.pinned (OpenSpec.ofChange objectOneSpec)

/-- ITS FALSE NEIGHBOUR: 'it returns false'. Refute it at one input. -/
def objectOneWrong : ChangeSpec := { name := "objectOne", fn := fun _ => fun
  | [d] => { results := [.lit (.bool false)], args := [d] }
  | _ => none }
def ObjectOneWrongFalsely : Prop := objectOneRow.holds Try.pinned (OpenSpec.ofChange objectOneWrong)

/-- 'heirloomlaw04.ObjectApart': WHATEVER THE INPUT: true; the input reads as it did. -/
def objectApartSpec : ChangeSpec := { name := "objectApart", fn := fun _ => fun
  | [d1, d2] => { results := [.lit (.bool true)], args := [d1, d2] }
  | _ => none }
def objectApartRow : OpenClaim := { program := "ytepoalgoombpeaa", sum := "189d5eb6272c5226da3497378af64be36a9ef53b79328ef7fb33b36710c0510e", func := "heirloom/heirloomlaw04.ObjectApart", spec := "objectApart", inPlace := ["math.Float64frombits"], unfollowed := true, recurses := true, apart := false }
def ObjectApartSaid : Prop := objectApartRow.holds Try.pinned (OpenSpec.ofChange objectApartSpec)

/-- ITS FALSE NEIGHBOUR: 'it returns false'. Refute it at one input. -/
def objectApartWrong : ChangeSpec := { name := "objectApart", fn := fun _ => fun
  | [d1, d2] => { results := [.lit (.bool false)], args := [d1, d2] }
  | _ => none }
def ObjectApartWrongFalsely : Prop := objectApartRow.holds Try.pinned (OpenSpec.ofChange objectApartWrong)

/-- 'heirloomlaw04.ObjectRefs': WHATEVER THE INPUT: true; the input reads as it did. -/
def objectRefsSpec : ChangeSpec := { name := "objectRefs", fn := fun _ => fun
  | [d] => { results := [.lit (.bool true)], args := [d] }
  | _ => none }
def objectRefsRow : OpenClaim := { program := "ytepoalgoombpeaa", sum := "189d5eb6272c5226da3497378af64be36a9ef53b79328ef7fb33b36710c0510e", func := "heirloom/heirloomlaw04.ObjectRefs", spec := "objectRefs", inPlace := ["math.Float64frombits"], unfollowed := true, recurses := true, apart := false }
def ObjectRefsSaid : Prop := objectRefsRow.holds Try.pinned (OpenSpec.ofChange objectRefsSpec)

/-- ITS FALSE NEIGHBOUR: 'it returns false'. Refute it at one input. -/
def objectRefsWrong : ChangeSpec := { name := "objectRefs", fn := fun _ => fun
  | [d] => { results := [.lit (.bool false)], args := [d] }
  | _ => none }
def ObjectRefsWrongFalsely : Prop := objectRefsRow.holds Try.pinned (OpenSpec.ofChange objectRefsWrong)

/- THE SECOND FORM. 'bulk': how many values and letters a reading holds, each counted each time it is reached (what is shared counts as often as it is met; a slice's spare places count too). A statement '..UptoSaid' is the law's where the arguments, and the package variables that the reading takes, are together of bulk at most 1048576: NARROWER than '..Said'. Prove '..Said' where nothing that the law and all that it calls make is longer than what came in: it says more and counts as full. Else prove '..UptoSaid'. A law counts once. -/
mutual
def uptoBulk {H : Type} : DataW H → Nat
  | .lit (.string bytes) => bytes.length + 1
  | .lit _ => 1
  | .nil => 1
  | .ptr d => uptoBulk d + 1
  | .slice elems spare => uptoBulkAll elems + uptoBulkAll spare + 1
  | .agg parts => uptoBulkAll parts + 1
  | .iface _ d => uptoBulk d + 1
  | .map entries => uptoBulkEntries entries + 1
  | .held _ => 1
def uptoBulkAll {H : Type} : List (DataW H) → Nat
  | [] => 0
  | d :: r => uptoBulk d + uptoBulkAll r
def uptoBulkEntries {H : Type} : List (Lit × DataW H) → Nat
  | [] => 0
  | x :: r => uptoBulkEntry x + uptoBulkEntries r
def uptoBulkEntry {H : Type} : Lit × DataW H → Nat
  | (.string bytes, d) => bytes.length + uptoBulk d + 1
  | (_, d) => uptoBulk d + 1
 end
def uptoSmall : (H : Type) → List (DataW H) → Bool := fun _ ds => decide (uptoBulkAll ds ≤ 1048576)
def OpenSpec.upto (s : _root_.Go.ChangeSpec) : _root_.Go.OpenSpec := { _root_.Go.OpenSpec.ofChange s with cond := some uptoSmall }

/-- 'heirloomlaw04.ObjectHeads', WHERE WHAT IT READS IS OF BULK AT MOST 1048576: true; the input reads as it did. -/
def objectHeadsUptoRow : OpenClaim := { program := "ytepoalgoombpeaa", sum := "189d5eb6272c5226da3497378af64be36a9ef53b79328ef7fb33b36710c0510e", func := "heirloom/heirloomlaw04.ObjectHeads", spec := "objectHeads", inPlace := ["math.Float64frombits"], unfollowed := true, recurses := true, apart := false, narrowed := true }
def ObjectHeadsUptoSaid : Prop := objectHeadsUptoRow.holds Try.pinned (OpenSpec.upto objectHeadsSpec)

/-- 'heirloomlaw04.ObjectValues', WHERE WHAT IT READS IS OF BULK AT MOST 1048576: true; the input reads as it did. -/
def objectValuesUptoRow : OpenClaim := { program := "ytepoalgoombpeaa", sum := "189d5eb6272c5226da3497378af64be36a9ef53b79328ef7fb33b36710c0510e", func := "heirloom/heirloomlaw04.ObjectValues", spec := "objectValues", inPlace := ["math.Float64frombits"], unfollowed := true, recurses := true, apart := false, narrowed := true }
def ObjectValuesUptoSaid : Prop := objectValuesUptoRow.holds Try.pinned (OpenSpec.upto objectValuesSpec)

/-- 'heirloomlaw04.ObjectCells', WHERE WHAT IT READS IS OF BULK AT MOST 1048576: true; the input reads as it did. -/
def objectCellsUptoRow : OpenClaim := { program := "ytepoalgoombpeaa", sum := "189d5eb6272c5226da3497378af64be36a9ef53b79328ef7fb33b36710c0510e", func := "heirloom/heirloomlaw04.ObjectCells", spec := "objectCells", inPlace := ["math.Float64frombits"], unfollowed := true, recurses := true, apart := false, narrowed := true }
def ObjectCellsUptoSaid : Prop := objectCellsUptoRow.holds Try.pinned (OpenSpec.upto objectCellsSpec)

/-- 'heirloomlaw04.ObjectReads', WHERE WHAT IT READS IS OF BULK AT MOST 1048576: true; the input reads as it did. -/
def objectReadsUptoRow : OpenClaim := { program := "ytepoalgoombpeaa", sum := "189d5eb6272c5226da3497378af64be36a9ef53b79328ef7fb33b36710c0510e", func := "heirloom/heirloomlaw04.ObjectReads", spec := "objectReads", inPlace := ["math.Float64frombits"], unfollowed := true, recurses := true, apart := false, narrowed := true }
def ObjectReadsUptoSaid : Prop := objectReadsUptoRow.holds Try.pinned (OpenSpec.upto objectReadsSpec)

/-- 'heirloomlaw04.ObjectLayouts', WHERE WHAT IT READS IS OF BULK AT MOST 1048576: true; the input reads as it did. -/
def objectLayoutsUptoRow : OpenClaim := { program := "ytepoalgoombpeaa", sum := "189d5eb6272c5226da3497378af64be36a9ef53b79328ef7fb33b36710c0510e", func := "heirloom/heirloomlaw04.ObjectLayouts", spec := "objectLayouts", inPlace := ["math.Float64frombits"], unfollowed := true, recurses := true, apart := false, narrowed := true }
def ObjectLayoutsUptoSaid : Prop := objectLayoutsUptoRow.holds Try.pinned (OpenSpec.upto objectLayoutsSpec)

/-- 'heirloomlaw04.ObjectBack', WHERE WHAT IT READS IS OF BULK AT MOST 1048576: true; the input reads as it did. -/
def objectBackUptoRow : OpenClaim := { program := "ytepoalgoombpeaa", sum := "189d5eb6272c5226da3497378af64be36a9ef53b79328ef7fb33b36710c0510e", func := "heirloom/heirloomlaw04.ObjectBack", spec := "objectBack", inPlace := ["math.Float64frombits"], unfollowed := true, recurses := true, apart := false, narrowed := true }
def ObjectBackUptoSaid : Prop := objectBackUptoRow.holds Try.pinned (OpenSpec.upto objectBackSpec)

/-- 'heirloomlaw04.ObjectOne', WHERE WHAT IT READS IS OF BULK AT MOST 1048576: true; the input reads as it did. -/
def objectOneUptoRow : OpenClaim := { program := "ytepoalgoombpeaa", sum := "189d5eb6272c5226da3497378af64be36a9ef53b79328ef7fb33b36710c0510e", func := "heirloom/heirloomlaw04.ObjectOne", spec := "objectOne", inPlace := ["math.Float64frombits"], unfollowed := true, recurses := true, apart := false, narrowed := true }
def ObjectOneUptoSaid : Prop := objectOneUptoRow.holds Try.pinned (OpenSpec.upto objectOneSpec)

/-- 'heirloomlaw04.ObjectApart', WHERE WHAT IT READS IS OF BULK AT MOST 1048576: true; the input reads as it did. -/
def objectApartUptoRow : OpenClaim := { program := "ytepoalgoombpeaa", sum := "189d5eb6272c5226da3497378af64be36a9ef53b79328ef7fb33b36710c0510e", func := "heirloom/heirloomlaw04.ObjectApart", spec := "objectApart", inPlace := ["math.Float64frombits"], unfollowed := true, recurses := true, apart := false, narrowed := true }
def ObjectApartUptoSaid : Prop := objectApartUptoRow.holds Try.pinned (OpenSpec.upto objectApartSpec)

/-- 'heirloomlaw04.ObjectRefs', WHERE WHAT IT READS IS OF BULK AT MOST 1048576: true; the input reads as it did. -/
def objectRefsUptoRow : OpenClaim := { program := "ytepoalgoombpeaa", sum := "189d5eb6272c5226da3497378af64be36a9ef53b79328ef7fb33b36710c0510e", func := "heirloom/heirloomlaw04.ObjectRefs", spec := "objectRefs", inPlace := ["math.Float64frombits"], unfollowed := true, recurses := true, apart := false, narrowed := true }
def ObjectRefsUptoSaid : Prop := objectRefsUptoRow.holds Try.pinned (OpenSpec.upto objectRefsSpec)

end Rows
end Go.Proofs.Ytepoalgoombpeaa
