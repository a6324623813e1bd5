/-
  No cell of these rows narrows 'for every input' (looked for: loops, veiled, ifaces, maps, wideKeys, modest, calm, conditions, laid).
  DERIVED. THE GIVEN ROWS OF THIS SEAT. 8 by the template 'for every input the law returns true; each argument reads behind the call as it read before'; 0 by the template 'total and deterministic' (their statements: YtllchgoppogibaaTotals.lean).
  GIVEN WITH THE SEED: the statements are not yours to turn. If you find one false, say at which input.
  Laid BY PROGRAM, IN A SANDBOX (cutbox-rows.mjs): the forced cells as the released guide's own fill.sh prints them over the translation 72cca6ff6db8c283… (all of the seat's roots in one cut). By AI agents, Wed Nov 11 2026. No macro, syntax, notation, axiom, sorry.
-/
import Derived.Test.YtllchgoppogibaaChecked
import GoSem.Claim
import GoSem.ClaimJoined
import GoSem.ClaimMapViews
import Derived.JoinedTies
import Derived.KernelRfl
namespace Go.Proofs.Ytllchgoppogibaa
/- THE CELL 'sum', in the pinned program and in every row, IS THE sha256 OF THE DUMP (.gsa) THAT YtllchgoppogibaaProg.lean LOADS. Nothing in Lean hashes anything: it is a label: what it is worth is what the hold of that sum in a sandbox is worth. -/
noncomputable def Try.pinned : Pinned := { name := "ytllchgoppogibaa", sum := "72cca6ff6db8c28354a082ce6089c2d415d90de1041e4ef4d800702d2fe2d8b8", checked := Try.checked }
namespace Rows
def none {H : Type} : Left H := { results := [], args := [] }

/-- 'heirloomlaw02.TextPacks': WHATEVER THE INPUT: true; the input reads as it did. -/
def textPacksSpec : ChangeSpec := { name := "textPacks", fn := fun _ => fun
  | [d1, d2] => { results := [.lit (.bool true)], args := [d1, d2] }
  | _ => none }
def textPacksRow : OpenClaim := { program := "ytllchgoppogibaa", sum := "72cca6ff6db8c28354a082ce6089c2d415d90de1041e4ef4d800702d2fe2d8b8", func := "heirloom/heirloomlaw02.TextPacks", spec := "textPacks", apart := false }
def TextPacksSaid : Prop := textPacksRow.holds Try.pinned (OpenSpec.ofChange textPacksSpec)

/-- ITS FALSE NEIGHBOUR: 'it returns false'. Refute it at one input. -/
def textPacksWrong : ChangeSpec := { name := "textPacks", fn := fun _ => fun
  | [d1, d2] => { results := [.lit (.bool false)], args := [d1, d2] }
  | _ => none }
def TextPacksWrongFalsely : Prop := textPacksRow.holds Try.pinned (OpenSpec.ofChange textPacksWrong)

/-- 'heirloomlaw02.TextQuotes': WHATEVER THE INPUT: true; the input reads as it did. -/
def textQuotesSpec : ChangeSpec := { name := "textQuotes", fn := fun _ => fun
  | [d] => { results := [.lit (.bool true)], args := [d] }
  | _ => none }
def textQuotesRow : OpenClaim := { program := "ytllchgoppogibaa", sum := "72cca6ff6db8c28354a082ce6089c2d415d90de1041e4ef4d800702d2fe2d8b8", func := "heirloom/heirloomlaw02.TextQuotes", spec := "textQuotes", apart := false }
def TextQuotesSaid : Prop := textQuotesRow.holds Try.pinned (OpenSpec.ofChange textQuotesSpec)

/-- ITS FALSE NEIGHBOUR: 'it returns false'. Refute it at one input. -/
def textQuotesWrong : ChangeSpec := { name := "textQuotes", fn := fun _ => fun
  | [d] => { results := [.lit (.bool false)], args := [d] }
  | _ => none }
def TextQuotesWrongFalsely : Prop := textQuotesRow.holds Try.pinned (OpenSpec.ofChange textQuotesWrong)

/-- 'heirloomlaw02.TextApart': WHATEVER THE INPUT: true; the input reads as it did. -/
def textApartSpec : ChangeSpec := { name := "textApart", fn := fun _ => fun
  | [d1, d2] => { results := [.lit (.bool true)], args := [d1, d2] }
  | _ => none }
def textApartRow : OpenClaim := { program := "ytllchgoppogibaa", sum := "72cca6ff6db8c28354a082ce6089c2d415d90de1041e4ef4d800702d2fe2d8b8", func := "heirloom/heirloomlaw02.TextApart", spec := "textApart", apart := false }
def TextApartSaid : Prop := textApartRow.holds Try.pinned (OpenSpec.ofChange textApartSpec)

/-- ITS FALSE NEIGHBOUR: 'it returns false'. Refute it at one input. -/
def textApartWrong : ChangeSpec := { name := "textApart", fn := fun _ => fun
  | [d1, d2] => { results := [.lit (.bool false)], args := [d1, d2] }
  | _ => none }
def TextApartWrongFalsely : Prop := textApartRow.holds Try.pinned (OpenSpec.ofChange textApartWrong)

/-- 'heirloomlaw02.TextPlain': WHATEVER THE INPUT: true; the input reads as it did. -/
def textPlainSpec : ChangeSpec := { name := "textPlain", fn := fun _ => fun
  | [d] => { results := [.lit (.bool true)], args := [d] }
  | _ => none }
def textPlainRow : OpenClaim := { program := "ytllchgoppogibaa", sum := "72cca6ff6db8c28354a082ce6089c2d415d90de1041e4ef4d800702d2fe2d8b8", func := "heirloom/heirloomlaw02.TextPlain", spec := "textPlain", apart := false }
def TextPlainSaid : Prop := textPlainRow.holds Try.pinned (OpenSpec.ofChange textPlainSpec)

/-- ITS FALSE NEIGHBOUR: 'it returns false'. Refute it at one input. -/
def textPlainWrong : ChangeSpec := { name := "textPlain", fn := fun _ => fun
  | [d] => { results := [.lit (.bool false)], args := [d] }
  | _ => none }
def TextPlainWrongFalsely : Prop := textPlainRow.holds Try.pinned (OpenSpec.ofChange textPlainWrong)

/-- 'heirloomlaw02.TextHashes': WHATEVER THE INPUT: true; the input reads as it did. -/
def textHashesSpec : ChangeSpec := { name := "textHashes", fn := fun _ => fun
  | [d1, d2, d3] => { results := [.lit (.bool true)], args := [d1, d2, d3] }
  | _ => none }
def textHashesRow : OpenClaim := { program := "ytllchgoppogibaa", sum := "72cca6ff6db8c28354a082ce6089c2d415d90de1041e4ef4d800702d2fe2d8b8", func := "heirloom/heirloomlaw02.TextHashes", spec := "textHashes", apart := false }
def TextHashesSaid : Prop := textHashesRow.holds Try.pinned (OpenSpec.ofChange textHashesSpec)

/-- ITS FALSE NEIGHBOUR: 'it returns false'. Refute it at one input. -/
def textHashesWrong : ChangeSpec := { name := "textHashes", fn := fun _ => fun
  | [d1, d2, d3] => { results := [.lit (.bool false)], args := [d1, d2, d3] }
  | _ => none }
def TextHashesWrongFalsely : Prop := textHashesRow.holds Try.pinned (OpenSpec.ofChange textHashesWrong)

/-- 'heirloomlaw02.TextUnpacks': WHATEVER THE INPUT: true; the input reads as it did. -/
def textUnpacksSpec : ChangeSpec := { name := "textUnpacks", fn := fun _ => fun
  | [d1, d2] => { results := [.lit (.bool true)], args := [d1, d2] }
  | _ => none }
def textUnpacksRow : OpenClaim := { program := "ytllchgoppogibaa", sum := "72cca6ff6db8c28354a082ce6089c2d415d90de1041e4ef4d800702d2fe2d8b8", func := "heirloom/heirloomlaw02.TextUnpacks", spec := "textUnpacks", apart := false }
def TextUnpacksSaid : Prop := textUnpacksRow.holds Try.pinned (OpenSpec.ofChange textUnpacksSpec)

/-- ITS FALSE NEIGHBOUR: 'it returns false'. Refute it at one input. -/
def textUnpacksWrong : ChangeSpec := { name := "textUnpacks", fn := fun _ => fun
  | [d1, d2] => { results := [.lit (.bool false)], args := [d1, d2] }
  | _ => none }
def TextUnpacksWrongFalsely : Prop := textUnpacksRow.holds Try.pinned (OpenSpec.ofChange textUnpacksWrong)

/-- 'heirloomlaw02.TextUnquotes': WHATEVER THE INPUT: true; the input reads as it did. -/
def textUnquotesSpec : ChangeSpec := { name := "textUnquotes", fn := fun _ => fun
  | [d] => { results := [.lit (.bool true)], args := [d] }
  | _ => none }
def textUnquotesRow : OpenClaim := { program := "ytllchgoppogibaa", sum := "72cca6ff6db8c28354a082ce6089c2d415d90de1041e4ef4d800702d2fe2d8b8", func := "heirloom/heirloomlaw02.TextUnquotes", spec := "textUnquotes", apart := false }
def TextUnquotesSaid : Prop := textUnquotesRow.holds Try.pinned (OpenSpec.ofChange textUnquotesSpec)

/-- ITS FALSE NEIGHBOUR: 'it returns false'. Refute it at one input. -/
def textUnquotesWrong : ChangeSpec := { name := "textUnquotes", fn := fun _ => fun
  | [d] => { results := [.lit (.bool false)], args := [d] }
  | _ => none }
def TextUnquotesWrongFalsely : Prop := textUnquotesRow.holds Try.pinned (OpenSpec.ofChange textUnquotesWrong)

/-- 'heirloomlaw02.TextBack': WHATEVER THE INPUT: true; the input reads as it did. -/
def textBackSpec : ChangeSpec := { name := "textBack", fn := fun _ => fun
  | [d] => { results := [.lit (.bool true)], args := [d] }
  | _ => none }
def textBackRow : OpenClaim := { program := "ytllchgoppogibaa", sum := "72cca6ff6db8c28354a082ce6089c2d415d90de1041e4ef4d800702d2fe2d8b8", func := "heirloom/heirloomlaw02.TextBack", spec := "textBack", apart := false }
def TextBackSaid : Prop := textBackRow.holds Try.pinned (OpenSpec.ofChange textBackSpec)

/-- ITS FALSE NEIGHBOUR: 'it returns false'. Refute it at one input. -/
def textBackWrong : ChangeSpec := { name := "textBack", fn := fun _ => fun
  | [d] => { results := [.lit (.bool false)], args := [d] }
  | _ => none }
def TextBackWrongFalsely : Prop := textBackRow.holds Try.pinned (OpenSpec.ofChange textBackWrong)

/- THE SECOND FORM. 'bulk': how many values and letters a reading holds, each counted each time it is reached (what is shared counts as often as it is met; a slice's spare places count too). A statement '..UptoSaid' is the law's where the arguments, and the package variables that the reading takes, are together of bulk at most 1048576: NARROWER than '..Said'. Prove '..Said' where nothing that the law and all that it calls make is longer than what came in: it says more and counts as full. Else prove '..UptoSaid'. A law counts once. -/
mutual
def uptoBulk {H : Type} : DataW H → Nat
  | .lit (.string bytes) => bytes.length + 1
  | .lit _ => 1
  | .nil => 1
  | .ptr d => uptoBulk d + 1
  | .slice elems spare => uptoBulkAll elems + uptoBulkAll spare + 1
  | .agg parts => uptoBulkAll parts + 1
  | .iface _ d => uptoBulk d + 1
  | .map entries => uptoBulkEntries entries + 1
  | .held _ => 1
def uptoBulkAll {H : Type} : List (DataW H) → Nat
  | [] => 0
  | d :: r => uptoBulk d + uptoBulkAll r
def uptoBulkEntries {H : Type} : List (Lit × DataW H) → Nat
  | [] => 0
  | x :: r => uptoBulkEntry x + uptoBulkEntries r
def uptoBulkEntry {H : Type} : Lit × DataW H → Nat
  | (.string bytes, d) => bytes.length + uptoBulk d + 1
  | (_, d) => uptoBulk d + 1
 end
def uptoSmall : (H : Type) → List (DataW H) → Bool := fun _ ds => decide (uptoBulkAll ds ≤ 1048576)
def OpenSpec.upto (s : _root_.Go.ChangeSpec) : _root_.Go.OpenSpec := { _root_.Go.OpenSpec.ofChange s with cond := some uptoSmall }

/-- 'heirloomlaw02.TextPacks', WHERE WHAT IT READS IS OF BULK AT MOST 1048576: true; the input reads as it did. -/
def textPacksUptoRow : OpenClaim := { program := "ytllchgoppogibaa", sum := "72cca6ff6db8c28354a082ce6089c2d415d90de1041e4ef4d800702d2fe2d8b8", func := "heirloom/heirloomlaw02.TextPacks", spec := "textPacks", apart := false, narrowed := true }
def TextPacksUptoSaid : Prop := textPacksUptoRow.holds Try.pinned (OpenSpec.upto textPacksSpec)

/-- 'heirloomlaw02.TextQuotes', WHERE WHAT IT READS IS OF BULK AT MOST 1048576: true; the input reads as it did. -/
def textQuotesUptoRow : OpenClaim := { program := "ytllchgoppogibaa", sum := "72cca6ff6db8c28354a082ce6089c2d415d90de1041e4ef4d800702d2fe2d8b8", func := "heirloom/heirloomlaw02.TextQuotes", spec := "textQuotes", apart := false, narrowed := true }
def TextQuotesUptoSaid : Prop := textQuotesUptoRow.holds Try.pinned (OpenSpec.upto textQuotesSpec)

/-- 'heirloomlaw02.TextApart', WHERE WHAT IT READS IS OF BULK AT MOST 1048576: true; the input reads as it did. -/
def textApartUptoRow : OpenClaim := { program := "ytllchgoppogibaa", sum := "72cca6ff6db8c28354a082ce6089c2d415d90de1041e4ef4d800702d2fe2d8b8", func := "heirloom/heirloomlaw02.TextApart", spec := "textApart", apart := false, narrowed := true }
def TextApartUptoSaid : Prop := textApartUptoRow.holds Try.pinned (OpenSpec.upto textApartSpec)

/-- 'heirloomlaw02.TextPlain', WHERE WHAT IT READS IS OF BULK AT MOST 1048576: true; the input reads as it did. -/
def textPlainUptoRow : OpenClaim := { program := "ytllchgoppogibaa", sum := "72cca6ff6db8c28354a082ce6089c2d415d90de1041e4ef4d800702d2fe2d8b8", func := "heirloom/heirloomlaw02.TextPlain", spec := "textPlain", apart := false, narrowed := true }
def TextPlainUptoSaid : Prop := textPlainUptoRow.holds Try.pinned (OpenSpec.upto textPlainSpec)

/-- 'heirloomlaw02.TextHashes', WHERE WHAT IT READS IS OF BULK AT MOST 1048576: true; the input reads as it did. -/
def textHashesUptoRow : OpenClaim := { program := "ytllchgoppogibaa", sum := "72cca6ff6db8c28354a082ce6089c2d415d90de1041e4ef4d800702d2fe2d8b8", func := "heirloom/heirloomlaw02.TextHashes", spec := "textHashes", apart := false, narrowed := true }
def TextHashesUptoSaid : Prop := textHashesUptoRow.holds Try.pinned (OpenSpec.upto textHashesSpec)

/-- 'heirloomlaw02.TextUnpacks', WHERE WHAT IT READS IS OF BULK AT MOST 1048576: true; the input reads as it did. -/
def textUnpacksUptoRow : OpenClaim := { program := "ytllchgoppogibaa", sum := "72cca6ff6db8c28354a082ce6089c2d415d90de1041e4ef4d800702d2fe2d8b8", func := "heirloom/heirloomlaw02.TextUnpacks", spec := "textUnpacks", apart := false, narrowed := true }
def TextUnpacksUptoSaid : Prop := textUnpacksUptoRow.holds Try.pinned (OpenSpec.upto textUnpacksSpec)

/-- 'heirloomlaw02.TextUnquotes', WHERE WHAT IT READS IS OF BULK AT MOST 1048576: true; the input reads as it did. -/
def textUnquotesUptoRow : OpenClaim := { program := "ytllchgoppogibaa", sum := "72cca6ff6db8c28354a082ce6089c2d415d90de1041e4ef4d800702d2fe2d8b8", func := "heirloom/heirloomlaw02.TextUnquotes", spec := "textUnquotes", apart := false, narrowed := true }
def TextUnquotesUptoSaid : Prop := textUnquotesUptoRow.holds Try.pinned (OpenSpec.upto textUnquotesSpec)

/-- 'heirloomlaw02.TextBack', WHERE WHAT IT READS IS OF BULK AT MOST 1048576: true; the input reads as it did. -/
def textBackUptoRow : OpenClaim := { program := "ytllchgoppogibaa", sum := "72cca6ff6db8c28354a082ce6089c2d415d90de1041e4ef4d800702d2fe2d8b8", func := "heirloom/heirloomlaw02.TextBack", spec := "textBack", apart := false, narrowed := true }
def TextBackUptoSaid : Prop := textBackUptoRow.holds Try.pinned (OpenSpec.upto textBackSpec)

end Rows
end Go.Proofs.Ytllchgoppogibaa
