/- PROVED: the words of the print that this claim uses (the others cut away by the session's program prune.py). Conditions: none beyond what each theorem states. -/
import Derived.Test.YtepoalgoombpeaaWInv
import Derived.Test.YtepoalgoombpeaaWFootNe
namespace Go.Proofs.YtepoalgoombpeaaW.PrintWords
open Go.RowKit
end Go.Proofs.YtepoalgoombpeaaW.PrintWords
namespace Go.Proofs.YtepoalgoombpeaaW.PrintLast
end Go.Proofs.YtepoalgoombpeaaW.PrintLast
