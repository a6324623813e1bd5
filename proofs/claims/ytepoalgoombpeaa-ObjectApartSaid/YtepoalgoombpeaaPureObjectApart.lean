/- PROVED: the law's Lean function is true of every two heads. Conditions: none. -/
import Derived.Test.YtepoalgoombpeaaObjLib
import Derived.Test.YtepoalgoombpeaaPrintx32
set_option linter.unusedVariables false
set_option linter.unusedSimpArgs false
namespace Go.Proofs.Ytepoalgoombpeaa.Pure
open Go.RowKit Go.Proofs.Ytepoalgoombpeaa.Print Go.Proofs.YtepoalgoombpeaaW.PrintWords Go.Proofs.YtepoalgoombpeaaW.PrintLast
theorem ObjectApart (x0_0 x0_1 x0_2 x0_3 x0_4 x0_5 x0_6 x0_7 : Int) (w0 : ∀ a ∈ [x0_0, x0_1, x0_2, x0_3, x0_4, x0_5, x0_6, x0_7], (Lit.int .i64 a).wf = true) (x1_0 x1_1 x1_2 x1_3 x1_4 x1_5 x1_6 x1_7 : Int) (w1 : ∀ a ∈ [x1_0, x1_1, x1_2, x1_3, x1_4, x1_5, x1_6, x1_7], (Lit.int .i64 a).wf = true) : ∃ k, heirloomlaw04_ObjectApart.f k x0_0 x0_1 x0_2 x0_3 x0_4 x0_5 x0_6 x0_7 x1_0 x1_1 x1_2 x1_3 x1_4 x1_5 x1_6 x1_7 = some true := by
  refine ⟨1, ?_⟩
  unfold heirloomlaw04_ObjectApart.f object_Pack.f
  simp only [Option.bind_some, heirloomlaw04_no.f]
  by_cases h : rightZ x0_0 x0_1 x0_2 x0_3 x0_4 x0_5 x0_6 x0_7 = 0
  · have hp : packZ x0_0 x0_1 x0_2 x0_3 x0_4 x0_5 x0_6 x0_7 = (x0_0 + 16 * x0_1 + 64 * x0_2 + 512 * x0_3 + 2048 * x0_4, x0_6 + 8192 * x0_7 + 67108864 * x0_5, 0) := by unfold packZ; rw [if_pos h]
    rw [hp]
    by_cases g : rightZ x1_0 x1_1 x1_2 x1_3 x1_4 x1_5 x1_6 x1_7 = 0
    · have hq : packZ x1_0 x1_1 x1_2 x1_3 x1_4 x1_5 x1_6 x1_7 = (x1_0 + 16 * x1_1 + 64 * x1_2 + 512 * x1_3 + 2048 * x1_4, x1_6 + 8192 * x1_7 + 67108864 * x1_5, 0) := by unfold packZ; rw [if_pos g]
      rw [hq]
      obtain ⟨a0, a1, a2, a3, a4, a5, a6, a7⟩ := rightZ.zero h
      obtain ⟨b0, b1, b2, b3, b4, b5, b6, b7⟩ := rightZ.zero g
      simp only [if_true, bne_self_eq_false, heirloomlaw04_ObjectApart.j0, Bool.false_eq_true, if_false]
      rw [oUnpack 0 _ _ (by omega) (by omega), unpack_pack h]
      simp only [Option.bind_some, heirloomlaw04_no.f, heirloomlaw04_alive.f, beq_self_eq_true, Bool.and_self, if_true]
      by_cases hall : x0_0 = x1_0 ∧ x0_1 = x1_1 ∧ x0_2 = x1_2 ∧ x0_3 = x1_3 ∧ x0_4 = x1_4 ∧ x0_5 = x1_5 ∧ x0_6 = x1_6 ∧ x0_7 = x1_7
      · obtain ⟨rfl, rfl, rfl, rfl, rfl, rfl, rfl, rfl⟩ := hall
        simp
      · have hb : (x0_0 == x1_0 && (x0_1 == x1_1 && (x0_2 == x1_2 && (x0_3 == x1_3 && (x0_4 == x1_4 && (x0_5 == x1_5 && (x0_6 == x1_6 && (x0_7 == x1_7)))))))) = false := by
          rw [Bool.eq_false_iff]
          intro hh
          simp only [Bool.and_eq_true, beq_iff_eq] at hh
          exact hall hh
        rw [hb]
        by_cases hP : x0_0 + 16 * x0_1 + 64 * x0_2 + 512 * x0_3 + 2048 * x0_4 = x1_0 + 16 * x1_1 + 64 * x1_2 + 512 * x1_3 + 2048 * x1_4
        · have hQ : (x0_6 + 8192 * x0_7 + 67108864 * x0_5 == x1_6 + 8192 * x1_7 + 67108864 * x1_5) = false := by
            rw [beq_eq_false_iff_ne]
            intro hQ
            exact hall (by omega)
          rw [if_pos hP, hQ]
          simp
        · rw [if_neg hP]
          simp
    · have hq : packZ x1_0 x1_1 x1_2 x1_3 x1_4 x1_5 x1_6 x1_7 = (0, 0, rightZ x1_0 x1_1 x1_2 x1_3 x1_4 x1_5 x1_6 x1_7) := by unfold packZ; rw [if_neg g]
      have hb : (rightZ x1_0 x1_1 x1_2 x1_3 x1_4 x1_5 x1_6 x1_7 != 0) = true := bne_iff_ne.2 g
      rw [hq]
      simp only [if_true, hb, heirloomlaw04_ObjectApart.j0, heirloomlaw04_alive.f, Option.bind_some]
  · have hp : packZ x0_0 x0_1 x0_2 x0_3 x0_4 x0_5 x0_6 x0_7 = (0, 0, rightZ x0_0 x0_1 x0_2 x0_3 x0_4 x0_5 x0_6 x0_7) := by unfold packZ; rw [if_neg h]
    rw [hp]
    simp only [if_neg h, heirloomlaw04_ObjectApart.j0, if_true, heirloomlaw04_alive.f, Option.bind_some]
end Go.Proofs.Ytepoalgoombpeaa.Pure
