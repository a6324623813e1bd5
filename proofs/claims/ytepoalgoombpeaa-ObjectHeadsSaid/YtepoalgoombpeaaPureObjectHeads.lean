/- PROVED: the law's Lean function is true of every head and every two cells. Conditions: none. -/
import Derived.Test.YtepoalgoombpeaaObjLib
import Derived.Test.YtepoalgoombpeaaPrintx19
set_option linter.unusedVariables false
set_option linter.unusedSimpArgs false
namespace Go.Proofs.Ytepoalgoombpeaa.Pure
open Go.RowKit Go.Proofs.Ytepoalgoombpeaa.Print Go.Proofs.YtepoalgoombpeaaW.PrintWords Go.Proofs.YtepoalgoombpeaaW.PrintLast
theorem heads_end (m : Nat) (x1 x2 : Int) (h1 : -9223372036854775808 ≤ x1 ∧ x1 ≤ 9223372036854775807) (h2 : -9223372036854775808 ≤ x2 ∧ x2 ≤ 9223372036854775807) : heirloomlaw04_ObjectHeads.j1 (m + 3) x1 x2 false = some true := by
  simp only [heirloomlaw04_ObjectHeads.j1, Bool.false_eq_true, if_false]
  rw [oUnpack _ _ _ h1.2 h2.2, rUnpack m _ _ h1 h2, Option.bind_some, Option.bind_some]
  simp [heirloomlaw04_no.f, heirloomlaw04_alive.f]
theorem ObjectHeads (x0_0 x0_1 x0_2 x0_3 x0_4 x0_5 x0_6 x0_7 : Int) (w0 : ∀ a ∈ [x0_0, x0_1, x0_2, x0_3, x0_4, x0_5, x0_6, x0_7], (Lit.int .i64 a).wf = true) (x1 : Int) (w1 : (Lit.int .i64 x1).wf = true) (x2 : Int) (w2 : (Lit.int .i64 x2).wf = true) : ∃ k, heirloomlaw04_ObjectHeads.f k x0_0 x0_1 x0_2 x0_3 x0_4 x0_5 x0_6 x0_7 x1 x2 = some true := by
  refine ⟨4, ?_⟩
  unfold heirloomlaw04_ObjectHeads.f object_Pack.f
  rw [rRight 3, object_Right.f3 2, oSize 2, rSize 3]
  simp only [Option.bind_some, heirloomlaw04_no.f, if_true, bne_self_eq_false]
  by_cases h : rightZ x0_0 x0_1 x0_2 x0_3 x0_4 x0_5 x0_6 x0_7 = 0
  · have hp : packZ x0_0 x0_1 x0_2 x0_3 x0_4 x0_5 x0_6 x0_7 = (x0_0 + 16 * x0_1 + 64 * x0_2 + 512 * x0_3 + 2048 * x0_4, x0_6 + 8192 * x0_7 + 67108864 * x0_5, 0) := by unfold packZ; rw [if_pos h]
    rw [hp, h]
    simp only [if_true, heirloomlaw04_ObjectHeads.j0, Bool.false_eq_true, if_false]
    rw [first_eq h, second_eq h]
    simp only [Option.bind_some, if_true]
    exact heads_end 0 x1 x2 (wf_i64 w1) (wf_i64 w2)
  · have hp : packZ x0_0 x0_1 x0_2 x0_3 x0_4 x0_5 x0_6 x0_7 = (0, 0, rightZ x0_0 x0_1 x0_2 x0_3 x0_4 x0_5 x0_6 x0_7) := by unfold packZ; rw [if_neg h]
    rw [hp]
    simp only [if_true, heirloomlaw04_ObjectHeads.j0, Bool.false_eq_true, if_false, if_neg h, bne_self_eq_false]
    exact heads_end 0 x1 x2 (wf_i64 w1) (wf_i64 w2)
end Go.Proofs.Ytepoalgoombpeaa.Pure
