/- The chapter's examples, reckoned. -/
import Derived.Test.YtllchgoppogibaaPrintx1
set_option linter.unusedVariables false
namespace Go.Proofs.Ytllchgoppogibaa.Pure
open Go.RowKit Go.Proofs.Ytllchgoppogibaa.Print Go.Proofs.YtllchgoppogibaaW.PrintWords Go.Proofs.YtllchgoppogibaaW.PrintLast

theorem alive10 : heirloomlaw02_alive.f 10 = some true := by kernel_rfl
theorem alive_ev : Ev heirloomlaw02_alive.f true := Ev.of heirloomlaw02_alive.mono alive10
end Go.Proofs.Ytllchgoppogibaa.Pure
