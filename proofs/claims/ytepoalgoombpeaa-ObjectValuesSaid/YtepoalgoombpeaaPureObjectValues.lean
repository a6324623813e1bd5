/- PROVED: the law's Lean function is true of every value. Conditions: none. -/
import Derived.Test.YtepoalgoombpeaaObjLib
import Derived.Test.YtepoalgoombpeaaPrintx21
set_option linter.unusedVariables false
set_option linter.unusedSimpArgs false
namespace Go.Proofs.Ytepoalgoombpeaa.Pure
open Go.RowKit Go.Proofs.Ytepoalgoombpeaa.Print Go.Proofs.YtepoalgoombpeaaW.PrintWords Go.Proofs.YtepoalgoombpeaaW.PrintLast
theorem ObjectValues (x0_0 x0_1 : Int) (w0 : (Lit.int .i64 x0_0).wf = true) (wb0 : (Lit.int .i64 x0_1).wf = true) : ∃ k, heirloomlaw04_ObjectValues.f k x0_0 x0_1 = some true := by
  refine ⟨1, ?_⟩
  unfold heirloomlaw04_ObjectValues.f
  rw [oValue 0, rValue 0, Option.bind_some, Option.bind_some]
  simp [heirloomlaw04_alive.f]
end Go.Proofs.Ytepoalgoombpeaa.Pure
