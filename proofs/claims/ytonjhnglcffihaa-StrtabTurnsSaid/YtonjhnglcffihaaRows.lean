/-
  No cell of these rows narrows 'for every input' (looked for: loops, veiled, ifaces, maps, wideKeys, modest, calm, conditions, laid).
  DERIVED. THE GIVEN ROWS OF THIS SEAT. 6 by the template 'for every input the law returns true; each argument reads behind the call as it read before'; 0 by the template 'total and deterministic' (their statements: YtonjhnglcffihaaTotals.lean).
  GIVEN WITH THE SEED: the statements are not yours to turn. If you find one false, say at which input.
  Laid BY PROGRAM, IN A SANDBOX (cutbox-rows.mjs): the forced cells as the released guide's own fill.sh prints them over the translation 73bc41ff2d23eecf… (all of the seat's roots in one cut). By AI agents, Wed Nov 11 2026. No macro, syntax, notation, axiom, sorry.
-/
import Derived.Test.YtonjhnglcffihaaChecked
import GoSem.Claim
import GoSem.ClaimJoined
import GoSem.ClaimMapViews
import Derived.JoinedTies
import Derived.KernelRfl
namespace Go.Proofs.Ytonjhnglcffihaa
/- THE CELL 'sum', in the pinned program and in every row, IS THE sha256 OF THE DUMP (.gsa) THAT YtonjhnglcffihaaProg.lean LOADS. Nothing in Lean hashes anything: it is a label: what it is worth is what the hold of that sum in a sandbox is worth. -/
noncomputable def Try.pinned : Pinned := { name := "ytonjhnglcffihaa", sum := "73bc41ff2d23eecf6de0d7a449a89f1e89e07893a4fa0db97a368393d4131408", checked := Try.checked }
namespace Rows
def none {H : Type} : Left H := { results := [], args := [] }

/-- 'heirloomlaw05.StrtabSpreads': WHATEVER THE INPUT: true; the input reads as it did. -/
def strtabSpreadsSpec : ChangeSpec := { name := "strtabSpreads", fn := fun _ => fun
  | [d] => { results := [.lit (.bool true)], args := [d] }
  | _ => none }
def strtabSpreadsRow : OpenClaim := { program := "ytonjhnglcffihaa", sum := "73bc41ff2d23eecf6de0d7a449a89f1e89e07893a4fa0db97a368393d4131408", func := "heirloom/heirloomlaw05.StrtabSpreads", spec := "strtabSpreads", unfollowed := true, recurses := true, apart := false }
def StrtabSpreadsSaid : Prop := strtabSpreadsRow.holds Try.pinned (OpenSpec.ofChange strtabSpreadsSpec)

/-- ITS FALSE NEIGHBOUR: 'it returns false'. Refute it at one input. -/
def strtabSpreadsWrong : ChangeSpec := { name := "strtabSpreads", fn := fun _ => fun
  | [d] => { results := [.lit (.bool false)], args := [d] }
  | _ => none }
def StrtabSpreadsWrongFalsely : Prop := strtabSpreadsRow.holds Try.pinned (OpenSpec.ofChange strtabSpreadsWrong)

/-- 'heirloomlaw05.StrtabTurns': WHATEVER THE INPUT: true; the input reads as it did. -/
def strtabTurnsSpec : ChangeSpec := { name := "strtabTurns", fn := fun _ => fun
  | [d1, d2] => { results := [.lit (.bool true)], args := [d1, d2] }
  | _ => none }
def strtabTurnsRow : OpenClaim := { program := "ytonjhnglcffihaa", sum := "73bc41ff2d23eecf6de0d7a449a89f1e89e07893a4fa0db97a368393d4131408", func := "heirloom/heirloomlaw05.StrtabTurns", spec := "strtabTurns", unfollowed := true, recurses := true, apart := false }
def StrtabTurnsSaid : Prop := strtabTurnsRow.holds Try.pinned (OpenSpec.ofChange strtabTurnsSpec)

/-- ITS FALSE NEIGHBOUR: 'it returns false'. Refute it at one input. -/
def strtabTurnsWrong : ChangeSpec := { name := "strtabTurns", fn := fun _ => fun
  | [d1, d2] => { results := [.lit (.bool false)], args := [d1, d2] }
  | _ => none }
def StrtabTurnsWrongFalsely : Prop := strtabTurnsRow.holds Try.pinned (OpenSpec.ofChange strtabTurnsWrong)

/-- 'heirloomlaw05.StrtabGone': WHATEVER THE INPUT: true; the input reads as it did. -/
def strtabGoneSpec : ChangeSpec := { name := "strtabGone", fn := fun _ => fun
  | [d1, d2, d3] => { results := [.lit (.bool true)], args := [d1, d2, d3] }
  | _ => none }
def strtabGoneRow : OpenClaim := { program := "ytonjhnglcffihaa", sum := "73bc41ff2d23eecf6de0d7a449a89f1e89e07893a4fa0db97a368393d4131408", func := "heirloom/heirloomlaw05.StrtabGone", spec := "strtabGone", unfollowed := true, recurses := true, apart := false }
def StrtabGoneSaid : Prop := strtabGoneRow.holds Try.pinned (OpenSpec.ofChange strtabGoneSpec)

/-- ITS FALSE NEIGHBOUR: 'it returns false'. Refute it at one input. -/
def strtabGoneWrong : ChangeSpec := { name := "strtabGone", fn := fun _ => fun
  | [d1, d2, d3] => { results := [.lit (.bool false)], args := [d1, d2, d3] }
  | _ => none }
def StrtabGoneWrongFalsely : Prop := strtabGoneRow.holds Try.pinned (OpenSpec.ofChange strtabGoneWrong)

/-- 'heirloomlaw05.StrtabPlays': WHATEVER THE INPUT: true; the input reads as it did. -/
def strtabPlaysSpec : ChangeSpec := { name := "strtabPlays", fn := fun _ => fun
  | [d1, d2, d3] => { results := [.lit (.bool true)], args := [d1, d2, d3] }
  | _ => none }
def strtabPlaysRow : OpenClaim := { program := "ytonjhnglcffihaa", sum := "73bc41ff2d23eecf6de0d7a449a89f1e89e07893a4fa0db97a368393d4131408", func := "heirloom/heirloomlaw05.StrtabPlays", spec := "strtabPlays", unfollowed := true, recurses := true, apart := false }
def StrtabPlaysSaid : Prop := strtabPlaysRow.holds Try.pinned (OpenSpec.ofChange strtabPlaysSpec)

/-- ITS FALSE NEIGHBOUR: 'it returns false'. Refute it at one input. -/
def strtabPlaysWrong : ChangeSpec := { name := "strtabPlays", fn := fun _ => fun
  | [d1, d2, d3] => { results := [.lit (.bool false)], args := [d1, d2, d3] }
  | _ => none }
def StrtabPlaysWrongFalsely : Prop := strtabPlaysRow.holds Try.pinned (OpenSpec.ofChange strtabPlaysWrong)

/-- 'heirloomlaw05.StrtabOnce': WHATEVER THE INPUT: true; the input reads as it did. -/
def strtabOnceSpec : ChangeSpec := { name := "strtabOnce", fn := fun _ => fun
  | [d] => { results := [.lit (.bool true)], args := [d] }
  | _ => none }
def strtabOnceRow : OpenClaim := { program := "ytonjhnglcffihaa", sum := "73bc41ff2d23eecf6de0d7a449a89f1e89e07893a4fa0db97a368393d4131408", func := "heirloom/heirloomlaw05.StrtabOnce", spec := "strtabOnce", unfollowed := true, recurses := true, apart := false }
def StrtabOnceSaid : Prop := strtabOnceRow.holds Try.pinned (OpenSpec.ofChange strtabOnceSpec)

/-- ITS FALSE NEIGHBOUR: 'it returns false'. Refute it at one input. -/
def strtabOnceWrong : ChangeSpec := { name := "strtabOnce", fn := fun _ => fun
  | [d] => { results := [.lit (.bool false)], args := [d] }
  | _ => none }
def StrtabOnceWrongFalsely : Prop := strtabOnceRow.holds Try.pinned (OpenSpec.ofChange strtabOnceWrong)

/-- 'heirloomlaw05.StrtabNil': WHATEVER THE INPUT: true; the input reads as it did. -/
def strtabNilSpec : ChangeSpec := { name := "strtabNil", fn := fun _ => fun
  | [d1, d2] => { results := [.lit (.bool true)], args := [d1, d2] }
  | _ => none }
def strtabNilRow : OpenClaim := { program := "ytonjhnglcffihaa", sum := "73bc41ff2d23eecf6de0d7a449a89f1e89e07893a4fa0db97a368393d4131408", func := "heirloom/heirloomlaw05.StrtabNil", spec := "strtabNil", unfollowed := true, recurses := true, apart := false }
def StrtabNilSaid : Prop := strtabNilRow.holds Try.pinned (OpenSpec.ofChange strtabNilSpec)

/-- ITS FALSE NEIGHBOUR: 'it returns false'. Refute it at one input. -/
def strtabNilWrong : ChangeSpec := { name := "strtabNil", fn := fun _ => fun
  | [d1, d2] => { results := [.lit (.bool false)], args := [d1, d2] }
  | _ => none }
def StrtabNilWrongFalsely : Prop := strtabNilRow.holds Try.pinned (OpenSpec.ofChange strtabNilWrong)

/- THE SECOND FORM. 'bulk': how many values and letters a reading holds, each counted each time it is reached (what is shared counts as often as it is met; a slice's spare places count too). A statement '..UptoSaid' is the law's where the arguments, and the package variables that the reading takes, are together of bulk at most 1048576: NARROWER than '..Said'. Prove '..Said' where nothing that the law and all that it calls make is longer than what came in: it says more and counts as full. Else prove '..UptoSaid'. A law counts once. -/
mutual
def uptoBulk {H : Type} : DataW H → Nat
  | .lit (.string bytes) => bytes.length + 1
  | .lit _ => 1
  | .nil => 1
  | .ptr d => uptoBulk d + 1
  | .slice elems spare => uptoBulkAll elems + uptoBulkAll spare + 1
  | .agg parts => uptoBulkAll parts + 1
  | .iface _ d => uptoBulk d + 1
  | .map entries => uptoBulkEntries entries + 1
  | .held _ => 1
def uptoBulkAll {H : Type} : List (DataW H) → Nat
  | [] => 0
  | d :: r => uptoBulk d + uptoBulkAll r
def uptoBulkEntries {H : Type} : List (Lit × DataW H) → Nat
  | [] => 0
  | x :: r => uptoBulkEntry x + uptoBulkEntries r
def uptoBulkEntry {H : Type} : Lit × DataW H → Nat
  | (.string bytes, d) => bytes.length + uptoBulk d + 1
  | (_, d) => uptoBulk d + 1
 end
def uptoSmall : (H : Type) → List (DataW H) → Bool := fun _ ds => decide (uptoBulkAll ds ≤ 1048576)
def OpenSpec.upto (s : _root_.Go.ChangeSpec) : _root_.Go.OpenSpec := { _root_.Go.OpenSpec.ofChange s with cond := some uptoSmall }

/-- 'heirloomlaw05.StrtabSpreads', WHERE WHAT IT READS IS OF BULK AT MOST 1048576: true; the input reads as it did. -/
def strtabSpreadsUptoRow : OpenClaim := { program := "ytonjhnglcffihaa", sum := "73bc41ff2d23eecf6de0d7a449a89f1e89e07893a4fa0db97a368393d4131408", func := "heirloom/heirloomlaw05.StrtabSpreads", spec := "strtabSpreads", unfollowed := true, recurses := true, apart := false, narrowed := true }
def StrtabSpreadsUptoSaid : Prop := strtabSpreadsUptoRow.holds Try.pinned (OpenSpec.upto strtabSpreadsSpec)

/-- 'heirloomlaw05.StrtabTurns', WHERE WHAT IT READS IS OF BULK AT MOST 1048576: true; the input reads as it did. -/
def strtabTurnsUptoRow : OpenClaim := { program := "ytonjhnglcffihaa", sum := "73bc41ff2d23eecf6de0d7a449a89f1e89e07893a4fa0db97a368393d4131408", func := "heirloom/heirloomlaw05.StrtabTurns", spec := "strtabTurns", unfollowed := true, recurses := true, apart := false, narrowed := true }
def StrtabTurnsUptoSaid : Prop := strtabTurnsUptoRow.holds Try.pinned (OpenSpec.upto strtabTurnsSpec)

/-- 'heirloomlaw05.StrtabGone', WHERE WHAT IT READS IS OF BULK AT MOST 1048576: true; the input reads as it did. -/
def strtabGoneUptoRow : OpenClaim := { program := "ytonjhnglcffihaa", sum := "73bc41ff2d23eecf6de0d7a449a89f1e89e07893a4fa0db97a368393d4131408", func := "heirloom/heirloomlaw05.StrtabGone", spec := "strtabGone", unfollowed := true, recurses := true, apart := false, narrowed := true }
def StrtabGoneUptoSaid : Prop := strtabGoneUptoRow.holds Try.pinned (OpenSpec.upto strtabGoneSpec)

/-- 'heirloomlaw05.StrtabPlays', WHERE WHAT IT READS IS OF BULK AT MOST 1048576: true; the input reads as it did. -/
def strtabPlaysUptoRow : OpenClaim := { program := "ytonjhnglcffihaa", sum := "73bc41ff2d23eecf6de0d7a449a89f1e89e07893a4fa0db97a368393d4131408", func := "heirloom/heirloomlaw05.StrtabPlays", spec := "strtabPlays", unfollowed := true, recurses := true, apart := false, narrowed := true }
def StrtabPlaysUptoSaid : Prop := strtabPlaysUptoRow.holds Try.pinned (OpenSpec.upto strtabPlaysSpec)

/-- 'heirloomlaw05.StrtabOnce', WHERE WHAT IT READS IS OF BULK AT MOST 1048576: true; the input reads as it did. -/
def strtabOnceUptoRow : OpenClaim := { program := "ytonjhnglcffihaa", sum := "73bc41ff2d23eecf6de0d7a449a89f1e89e07893a4fa0db97a368393d4131408", func := "heirloom/heirloomlaw05.StrtabOnce", spec := "strtabOnce", unfollowed := true, recurses := true, apart := false, narrowed := true }
def StrtabOnceUptoSaid : Prop := strtabOnceUptoRow.holds Try.pinned (OpenSpec.upto strtabOnceSpec)

/-- 'heirloomlaw05.StrtabNil', WHERE WHAT IT READS IS OF BULK AT MOST 1048576: true; the input reads as it did. -/
def strtabNilUptoRow : OpenClaim := { program := "ytonjhnglcffihaa", sum := "73bc41ff2d23eecf6de0d7a449a89f1e89e07893a4fa0db97a368393d4131408", func := "heirloom/heirloomlaw05.StrtabNil", spec := "strtabNil", unfollowed := true, recurses := true, apart := false, narrowed := true }
def StrtabNilUptoSaid : Prop := strtabNilUptoRow.holds Try.pinned (OpenSpec.upto strtabNilSpec)

end Rows
end Go.Proofs.Ytonjhnglcffihaa
