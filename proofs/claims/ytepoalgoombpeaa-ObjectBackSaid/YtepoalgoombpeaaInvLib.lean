/- PROVED: reading is the inverse of laying, on closed forms. Conditions: those each theorem states. -/
import Derived.Test.YtepoalgoombpeaaReadLib
import Derived.Test.YtepoalgoombpeaaSameLib
set_option linter.unusedVariables false
set_option linter.unusedSimpArgs false
namespace Go.Proofs.Ytepoalgoombpeaa.Pure
open Go.RowKit Go.Proofs.Ytepoalgoombpeaa.Print Go.Proofs.YtepoalgoombpeaaW.PrintWords Go.Proofs.YtepoalgoombpeaaW.PrintLast
theorem pairs_flat : ∀ l : List S38, pairsOf (flat l) = l
  | [] => rfl
  | v :: l => by
    rw [flat_cons]
    simp only [pairsOf, pairs_flat l]
theorem flat_pairs : ∀ l : List Int, l.length % 2 = 0 → flat (pairsOf l) = l
  | [], _ => rfl
  | [_], h => by simp at h
  | t :: n :: r, h => by
    simp only [pairsOf, flat_cons]
    rw [flat_pairs r (by simp only [List.length_cons] at h; omega)]
theorem pairs_len : ∀ l : List Int, (pairsOf l).length = l.length / 2
  | [] => rfl
  | [_] => by simp [pairsOf]
  | t :: n :: r => by
    simp only [pairsOf, List.length_cons, pairs_len r]
    omega
theorem flat_len (l : List S38) : (flat l).length = 2 * l.length := by
  induction l with
  | nil => rfl
  | cons v l ih => rw [flat_cons]; simp only [List.length_cons, ih]; omega
theorem unpack_form {a b : Int} (h : (unpackZ a b).2.2.2.2.2.2.2.2 = 0) : 0 ≤ a ∧ 0 ≤ b ∧ unpackZ a b = (a % 16, a / 16 % 4, a / 64 % 8, a / 512 % 4, a / 2048, b / 67108864, b % 8192, b / 8192 % 8192, 0) := by
  unfold unpackZ at h ⊢
  split
  · rename_i hn
    rw [if_pos hn] at h
    simp at h
  · rename_i hn
    rw [if_neg hn] at h
    split
    · exact ⟨by omega, by omega, rfl⟩
    · rename_i hz
      rw [if_neg hz] at h
      simp at h
theorem read_laid {a0 a1 a2 a3 a4 a5 a6 a7 : Int} {l8 : List Int} {l9 : List S38} (h : rightZ a0 a1 a2 a3 a4 a5 a6 a7 = 0) (h6 : a6 = (l8.length : Int)) (h7 : a7 = (l9.length : Int)) (ho : l9.all okV = true) :
    readZ ([a0 + 16 * a1 + 64 * a2 + 512 * a3 + 2048 * a4, a6 + 8192 * a7 + 67108864 * a5] ++ l8 ++ flat l9) = (a0, a1, a2, a3, a4, a5, a6, a7, l8, l9, 0) := by
  obtain ⟨l, hl⟩ : ∃ l, l = [a0 + 16 * a1 + 64 * a2 + 512 * a3 + 2048 * a4, a6 + 8192 * a7 + 67108864 * a5] ++ l8 ++ flat l9 := ⟨_, rfl⟩
  have hh : headZ l = (a0, a1, a2, a3, a4, a5, a6, a7, 0) := by
    unfold headZ
    rw [← unpack_pack h, hl]
    rfl
  have hlen : (l.length : Int) = 2 + a6 + 2 * a7 := by
    rw [hl]
    simp only [List.length_append, List.length_cons, List.length_nil, flat_len]
    omega
  have hs : sizeH (headZ l) = (l.length : Int) := by
    rw [hh, hlen]
    unfold sizeH sizeZ
    simp only
    rw [if_pos h]
  have e6 : a6.toNat = l8.length := by omega
  have d1 : (l.drop 2).take l8.length = l8 := by
    rw [hl]
    simp
  have d2 : l.drop (2 + l8.length) = flat l9 := by
    rw [hl]
    exact List.drop_left' (by simp only [List.length_append, List.length_cons, List.length_nil])
  rw [← hl]
  unfold readZ
  rw [if_neg (by have := rightZ.zero h; omega), hs, hh]
  simp only [and_self, if_true]
  rw [e6, d1, d2]
  unfold readTail
  rw [pairs_flat, if_pos ho, List.nil_append]
theorem laid_read {l : List Int} (he : (readZ l).2.2.2.2.2.2.2.2.2.2 = 0) : cellsZ (readZ l).1 (readZ l).2.1 (readZ l).2.2.1 (readZ l).2.2.2.1 (readZ l).2.2.2.2.1 (readZ l).2.2.2.2.2.1 (readZ l).2.2.2.2.2.2.1 (readZ l).2.2.2.2.2.2.2.1 (readZ l).2.2.2.2.2.2.2.2.1 (readZ l).2.2.2.2.2.2.2.2.2.1 = (l, 0) := by
  by_cases h2 : l.length < 2
  · unfold readZ at he
    rw [if_pos h2] at he
    simp [noObj] at he
  by_cases hc : (headZ l).2.2.2.2.2.2.2.2 = 0 ∧ sizeH (headZ l) = (l.length : Int)
  · obtain ⟨hu, hs⟩ := hc
    obtain ⟨g0, g1, g2, g3, g4⟩ := head_bounds hu hs
    have hr := unpack_right hu
    obtain ⟨p0, p1, pf⟩ := unpack_form hu
    obtain ⟨A, hA⟩ : ∃ A : Nat, (headZ l).2.2.2.2.2.2.1 = (A : Int) := ⟨(headZ l).2.2.2.2.2.2.1.toNat, by omega⟩
    obtain ⟨B, hB⟩ : ∃ B : Nat, (headZ l).2.2.2.2.2.2.2.1 = (B : Int) := ⟨(headZ l).2.2.2.2.2.2.2.1.toNat, by omega⟩
    have hll : l.length = 2 + A + 2 * B := by omega
    have eA : (headZ l).2.2.2.2.2.2.1.toNat = A := by omega
    by_cases ho : (pairsOf (l.drop (2 + A))).all okV = true
    · have hz : readZ l = ((headZ l).1, (headZ l).2.1, (headZ l).2.2.1, (headZ l).2.2.2.1, (headZ l).2.2.2.2.1, (headZ l).2.2.2.2.2.1, (headZ l).2.2.2.2.2.2.1, (headZ l).2.2.2.2.2.2.2.1, (l.drop 2).take A, pairsOf (l.drop (2 + A)), 0) := by
        unfold readZ
        rw [if_neg h2, if_pos ⟨hu, hs⟩, eA]
        unfold readTail
        rw [if_pos ho, List.nil_append]
      rw [hz]
      simp only
      have hr' : rightZ (headZ l).1 (headZ l).2.1 (headZ l).2.2.1 (headZ l).2.2.2.1 (headZ l).2.2.2.2.1 (headZ l).2.2.2.2.2.1 (headZ l).2.2.2.2.2.2.1 (headZ l).2.2.2.2.2.2.2.1 = 0 := hr
      unfold cellsZ
      rw [if_neg (by simp [hr']), if_pos ⟨by rw [hA]; simp; omega, by rw [hB, pairs_len]; simp; omega⟩]
      unfold tailZ
      rw [if_pos ho, flat_pairs _ (by simp; omega)]
      have e1 : (headZ l).1 + 16 * (headZ l).2.1 + 64 * (headZ l).2.2.1 + 512 * (headZ l).2.2.2.1 + 2048 * (headZ l).2.2.2.2.1 = rd l 0 := by
        have pf' : headZ l = _ := pf
        rw [pf']
        simp only
        omega
      have e2 : (headZ l).2.2.2.2.2.2.1 + 8192 * (headZ l).2.2.2.2.2.2.2.1 + 67108864 * (headZ l).2.2.2.2.2.1 = rd l 1 := by
        have pf' : headZ l = _ := pf
        rw [pf']
        simp only
        omega
      rw [e1, e2]
      congr 1
      have q0 : rd l 0 = l[0]'(by omega) := rd_nat (i := 0) (by omega)
      have q1 : rd l 1 = l[1]'(by omega) := rd_nat (i := 1) (by omega)
      have s0 : l = l[0]'(by omega) :: l[1]'(by omega) :: l.drop 2 := by
        rw [← List.drop_eq_getElem_cons (by omega : 1 < l.length)]
        exact (List.drop_eq_getElem_cons (by omega : 0 < l.length)) ▸ (List.drop_zero).symm
      have s1 : (l.drop 2).take A ++ l.drop (2 + A) = l.drop 2 := by
        rw [← List.drop_drop]
        exact List.take_append_drop A (l.drop 2)
      rw [q0, q1]
      rw [List.append_assoc, s1]
      exact s0.symm
    · unfold readZ at he
      rw [if_neg h2, if_pos ⟨hu, hs⟩, eA] at he
      unfold readTail at he
      rw [if_neg ho] at he
      simp [noObj] at he
  · unfold readZ at he
    rw [if_neg h2, if_neg hc] at he
    simp [noObj] at he
theorem read_no {l : List Int} (he : (readZ l).2.2.2.2.2.2.2.2.2.2 ≠ 0) : readZ l = noObj := by
  unfold readZ at he ⊢
  split
  · rfl
  · rename_i h2
    rw [if_neg h2] at he
    split
    · rename_i hc
      rw [if_pos hc] at he
      unfold readTail at he ⊢
      split
      · rename_i ho
        rw [if_pos ho] at he
        exact absurd rfl he
      · rfl
    · rfl
end Go.Proofs.Ytepoalgoombpeaa.Pure
