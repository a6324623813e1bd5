/- PROVED: what the object laws' functions without loops compute, in closed form. Conditions: those each theorem states. -/
import Derived.Test.YtepoalgoombpeaaPrintx7
import Derived.Test.YtepoalgoombpeaaPrintx8
import Derived.Test.YtepoalgoombpeaaPrintx20
set_option linter.unusedVariables false
set_option linter.unusedSimpArgs false
namespace Go.Proofs.Ytepoalgoombpeaa.Pure
open Go.RowKit Go.Proofs.Ytepoalgoombpeaa.Print Go.Proofs.YtepoalgoombpeaaW.PrintWords Go.Proofs.YtepoalgoombpeaaW.PrintLast
theorem wf_i64 {a : Int} (h : (Lit.int .i64 a).wf = true) : -9223372036854775808 ≤ a ∧ a ≤ 9223372036854775807 := by
  simp only [Lit.wf, Bool.and_eq_true, decide_eq_true_eq] at h
  exact h
def valueZ (t n : Int) : Bool :=
  if t = 0 then n == 0 else if t = 1 then (n == 0 || n == 1) else if t = 2 ∨ t = 3 then isZ t n
  else if t = 10 then (decide (0 ≤ n) && decide (n ≤ 255)) else (decide (4 ≤ t) && decide (t ≤ 11) && decide (1 ≤ n) && decide (n ≤ 65536))
theorem oValue (m : Nat) (t n : Int) : object_Value.f (m + 1) t n = some (valueZ t n) := by
  unfold object_Value.f valueZ
  simp only [object_Value.j0, num_Is.f, Option.bind_some]
  by_cases h0 : t = 0
  · simp [h0]
  by_cases h1 : t = 1
  · by_cases hn : n = 0 <;> simp [h1, hn]
  by_cases h2 : t = 2
  · simp [h2]
  by_cases h3 : t = 3
  · simp [h3]
  by_cases h10 : t = 10
  · by_cases hn : 0 ≤ n <;> simp [h10, hn]
  by_cases h4 : 4 ≤ t
  · by_cases h11 : t ≤ 11
    · by_cases hn : 1 ≤ n <;> simp [h0, h1, h2, h3, h10, h4, h11, hn]
    · simp [h0, h1, h2, h3, h10, h4, h11]
  · simp [h0, h1, h2, h3, h10, h4]
theorem rValue (m : Nat) (t n : Int) : heirloomref04_Value.f (m + 1) t n = some (valueZ t n) := by
  unfold heirloomref04_Value.f valueZ
  simp only [heirloomref04_Value.j0, heirloomref01_Is.f, Option.bind_some]
  by_cases h0 : t = 0
  · simp [h0]
  by_cases h1 : t = 1
  · by_cases hn : n = 0 <;> simp [h1, hn]
  by_cases h2 : t = 2
  · simp [h2]
  by_cases h3 : t = 3
  · simp [h3]
  by_cases h10 : t = 10
  · by_cases hn : 0 ≤ n <;> simp [h10, hn]
  by_cases h4 : 4 ≤ t
  · by_cases h11 : t ≤ 11
    · by_cases hn : 1 ≤ n <;> simp [h0, h1, h2, h3, h10, h4, h11, hn]
    · simp [h0, h1, h2, h3, h10, h4, h11]
  · simp [h0, h1, h2, h3, h10, h4]
theorem in_eq (n hi : Int) : heirloomref04_in.f n hi = some (decide (0 ≤ n) && decide (n ≤ hi)) := by
  unfold heirloomref04_in.f
  by_cases h : n ≥ 0
  · rw [if_pos h]
    simp [h]
  · rw [if_neg h]
    simp [h]
theorem rRight (m : Nat) (k c a wk s fi au sl : Int) : heirloomref04_Right.f (m + 1) k c a wk s fi au sl = some (rightZ k c a wk s fi au sl) := by
  unfold heirloomref04_Right.f rightZ
  by_cases h1 : k < 4
  · rw [if_pos h1, if_pos (.inl h1)]
    simp only [heirloomref04_Right.j0, if_true]
  · rw [if_neg h1]
    by_cases h2 : k > 9
    · rw [if_pos (.inr h2)]
      simp only [decide_eq_true h2, heirloomref04_Right.j0, if_true]
    · rw [if_neg (by omega)]
      simp only [decide_eq_false h2, heirloomref04_Right.j0, in_eq, Option.bind_some]
      by_cases c1 : 0 ≤ c ∧ c ≤ 3
      · by_cases c2 : 0 ≤ a ∧ a ≤ 6
        · by_cases c3 : 0 ≤ wk ∧ wk ≤ 3
          · by_cases c4 : 0 ≤ s ∧ s ≤ 2147483647
            · by_cases c5 : 0 ≤ fi ∧ fi ≤ 2147483647
              · by_cases c6 : 0 ≤ au ∧ au ≤ 4096
                · by_cases c7 : 0 ≤ sl ∧ sl ≤ 4096
                  · rw [if_neg (not_not_intro (show HeadOk c a wk s fi au sl from ⟨c1, c2, c3, c4, c5, c6, c7⟩))]
                    by_cases k5 : k = 5
                    · simp [c1, c2, c3, c4, c5, c6, c7, k5]
                    · have e : wrap64 (wk + fi) = wk + fi := by unfold wrap64; omega
                      by_cases w0 : wk = 0 ∧ fi = 0
                      · obtain ⟨rfl, rfl⟩ := w0
                        have e0 : wrap64 0 = 0 := by unfold wrap64; omega
                        simp [c1, c2, c4, c6, c7, k5, e0]
                      · have w1 : wk ≠ 0 ∨ fi ≠ 0 := by omega
                        have w2 : ¬ (wk + fi = 0) := by omega
                        simp [c1, c2, c3, c4, c5, c6, c7, k5, w2, w1, e]
                  · rw [if_pos (show ¬ HeadOk c a wk s fi au sl from fun h => c7 h.2.2.2.2.2.2)]
                    have b7 : (decide (0 ≤ sl) && decide (sl ≤ 4096)) = false := by simp; omega
                    simp [c1, c2, c3, c4, c5, c6, b7]
                · rw [if_pos (show ¬ HeadOk c a wk s fi au sl from fun h => c6 h.2.2.2.2.2.1)]
                  have b6 : (decide (0 ≤ au) && decide (au ≤ 4096)) = false := by simp; omega
                  simp [c1, c2, c3, c4, c5, b6]
              · rw [if_pos (show ¬ HeadOk c a wk s fi au sl from fun h => c5 h.2.2.2.2.1)]
                have b5 : (decide (0 ≤ fi) && decide (fi ≤ 2147483647)) = false := by simp; omega
                simp [c1, c2, c3, c4, b5]
            · rw [if_pos (show ¬ HeadOk c a wk s fi au sl from fun h => c4 h.2.2.2.1)]
              have b4 : (decide (0 ≤ s) && decide (s ≤ 2147483647)) = false := by simp; omega
              simp [c1, c2, c3, b4]
          · rw [if_pos (show ¬ HeadOk c a wk s fi au sl from fun h => c3 h.2.2.1)]
            have b3 : (decide (0 ≤ wk) && decide (wk ≤ 3)) = false := by simp; omega
            simp [c1, c2, b3]
        · rw [if_pos (show ¬ HeadOk c a wk s fi au sl from fun h => c2 h.2.1)]
          have b2 : (decide (0 ≤ a) && decide (a ≤ 6)) = false := by simp; omega
          simp [c1, b2]
      · rw [if_pos (show ¬ HeadOk c a wk s fi au sl from fun h => c1 h.1)]
        have b1 : (decide (0 ≤ c) && decide (c ≤ 3)) = false := by simp; omega
        simp [b1]
def sizeZ (k c a wk s fi au sl : Int) : Int := if rightZ k c a wk s fi au sl = 0 then 2 + au + 2 * sl else 0
theorem size_wrap {k c a wk s fi au sl : Int} : (if rightZ k c a wk s fi au sl = 0 then some (wrap64 (wrap64 (2 + au) + wrap64 (2 * sl))) else some 0) = some (sizeZ k c a wk s fi au sl) := by
  unfold sizeZ
  by_cases h : rightZ k c a wk s fi au sl = 0
  · rw [if_pos h, if_pos h]
    obtain ⟨_, _, _, _, _, _, h6, h7⟩ := rightZ.zero h
    congr 1
    unfold wrap64
    omega
  · rw [if_neg h, if_neg h]
theorem oSize (m : Nat) (k c a wk s fi au sl : Int) : object_Size.f (m + 2) k c a wk s fi au sl = some (sizeZ k c a wk s fi au sl) := by
  unfold object_Size.f
  rw [object_Right.f3, Option.bind_some]
  exact size_wrap
theorem rSize (m : Nat) (k c a wk s fi au sl : Int) : heirloomref04_Size.f (m + 1) k c a wk s fi au sl = some (sizeZ k c a wk s fi au sl) := by
  unfold heirloomref04_Size.f
  rw [rRight, Option.bind_some]
  exact size_wrap
theorem rUnpack (m : Nat) (a b : Int) (ha : -9223372036854775808 ≤ a ∧ a ≤ 9223372036854775807) (hb : -9223372036854775808 ≤ b ∧ b ≤ 9223372036854775807) : heirloomref04_Unpack.f (m + 2) a b = some (unpackZ a b) := by
  unfold heirloomref04_Unpack.f unpackZ
  by_cases h1 : a < 0
  · rw [if_pos h1, if_pos (.inl h1)]
    simp only [heirloomref04_Unpack.j0, if_true]
  · rw [if_neg h1]
    by_cases h2 : b < 0
    · rw [if_pos (.inr h2)]
      simp only [decide_eq_true h2, heirloomref04_Unpack.j0, if_true]
    · rw [if_neg (by omega)]
      simp only [decide_eq_false h2, heirloomref04_Unpack.j0, Bool.false_eq_true, if_false]
      have t1 : Int.tmod a 16 = a % 16 := Int.tmod_eq_emod_of_nonneg (by omega)
      have t2 : Int.tmod b 8192 = b % 8192 := Int.tmod_eq_emod_of_nonneg (by omega)
      have d1 : Int.tdiv a 16 = a / 16 := Int.tdiv_eq_ediv_of_nonneg (by omega)
      have d2 : Int.tdiv a 64 = a / 64 := Int.tdiv_eq_ediv_of_nonneg (by omega)
      have d3 : Int.tdiv a 512 = a / 512 := Int.tdiv_eq_ediv_of_nonneg (by omega)
      have d4 : Int.tdiv a 2048 = a / 2048 := Int.tdiv_eq_ediv_of_nonneg (by omega)
      have d5 : Int.tdiv b 67108864 = b / 67108864 := Int.tdiv_eq_ediv_of_nonneg (by omega)
      have d6 : Int.tdiv b 8192 = b / 8192 := Int.tdiv_eq_ediv_of_nonneg (by omega)
      have w1 : wrap64 (a / 16) = a / 16 := by unfold wrap64; omega
      have w2 : wrap64 (a / 64) = a / 64 := by unfold wrap64; omega
      have w3 : wrap64 (a / 512) = a / 512 := by unfold wrap64; omega
      have w4 : wrap64 (a / 2048) = a / 2048 := by unfold wrap64; omega
      have w5 : wrap64 (b / 67108864) = b / 67108864 := by unfold wrap64; omega
      have w6 : wrap64 (b / 8192) = b / 8192 := by unfold wrap64; omega
      have t3 : Int.tmod (a / 16) 4 = a / 16 % 4 := Int.tmod_eq_emod_of_nonneg (by omega)
      have t4 : Int.tmod (a / 64) 8 = a / 64 % 8 := Int.tmod_eq_emod_of_nonneg (by omega)
      have t5 : Int.tmod (a / 512) 4 = a / 512 % 4 := Int.tmod_eq_emod_of_nonneg (by omega)
      have t6 : Int.tmod (b / 8192) 8192 = b / 8192 % 8192 := Int.tmod_eq_emod_of_nonneg (by omega)
      rw [d1, d2, d3, d4, d5, d6, w1, w2, w3, w4, w5, w6, t1, t2, t3, t4, t5, t6, rRight, Option.bind_some]
      split <;> rfl
theorem oUnpack (m : Nat) (a b : Int) (ha : a ≤ 9223372036854775807) (hb : b ≤ 9223372036854775807) : object_Unpack.f m a b = some (unpackZ a b) := by
  unfold object_Unpack.f
  rw [if_pos ⟨ha, hb⟩]
theorem first_eq {k c a wk s fi au sl : Int} (h : rightZ k c a wk s fi au sl = 0) : heirloomref04_First.f k c a wk s fi au sl = some (k + 16 * c + 64 * a + 512 * wk + 2048 * s) := by
  obtain ⟨h0, h1, h2, h3, h4, h5, h6, h7⟩ := rightZ.zero h
  unfold heirloomref04_First.f
  congr 1
  have e1 : wrap64 (16 * c) = 16 * c := by unfold wrap64; omega
  have e2 : wrap64 (64 * a) = 64 * a := by unfold wrap64; omega
  have e3 : wrap64 (512 * wk) = 512 * wk := by unfold wrap64; omega
  have e4 : wrap64 (2048 * s) = 2048 * s := by unfold wrap64; omega
  have e5 : wrap64 (k + 16 * c) = k + 16 * c := by unfold wrap64; omega
  have e6 : wrap64 (k + 16 * c + 64 * a) = k + 16 * c + 64 * a := by unfold wrap64; omega
  have e7 : wrap64 (k + 16 * c + 64 * a + 512 * wk) = k + 16 * c + 64 * a + 512 * wk := by unfold wrap64; omega
  rw [e1, e2, e3, e4, e5, e6, e7]
  unfold wrap64
  omega
theorem second_eq {k c a wk s fi au sl : Int} (h : rightZ k c a wk s fi au sl = 0) : heirloomref04_Second.f k c a wk s fi au sl = some (au + 8192 * sl + 67108864 * fi) := by
  obtain ⟨h0, h1, h2, h3, h4, h5, h6, h7⟩ := rightZ.zero h
  unfold heirloomref04_Second.f
  congr 1
  unfold wrap64
  omega
theorem unpack_pack {k c a wk s fi au sl : Int} (h : rightZ k c a wk s fi au sl = 0) : unpackZ (k + 16 * c + 64 * a + 512 * wk + 2048 * s) (au + 8192 * sl + 67108864 * fi) = (k, c, a, wk, s, fi, au, sl, 0) := by
  obtain ⟨h0, h1, h2, h3, h4, h5, h6, h7⟩ := rightZ.zero h
  have e1 : (k + 16 * c + 64 * a + 512 * wk + 2048 * s) % 16 = k := by omega
  have e2 : (k + 16 * c + 64 * a + 512 * wk + 2048 * s) / 16 % 4 = c := by omega
  have e3 : (k + 16 * c + 64 * a + 512 * wk + 2048 * s) / 64 % 8 = a := by omega
  have e4 : (k + 16 * c + 64 * a + 512 * wk + 2048 * s) / 512 % 4 = wk := by omega
  have e5 : (k + 16 * c + 64 * a + 512 * wk + 2048 * s) / 2048 = s := by omega
  have e6 : (au + 8192 * sl + 67108864 * fi) / 67108864 = fi := by omega
  have e7 : (au + 8192 * sl + 67108864 * fi) % 8192 = au := by omega
  have e8 : (au + 8192 * sl + 67108864 * fi) / 8192 % 8192 = sl := by omega
  unfold unpackZ
  rw [if_neg (by omega), e1, e2, e3, e4, e5, e6, e7, e8, if_pos h]
end Go.Proofs.Ytepoalgoombpeaa.Pure
