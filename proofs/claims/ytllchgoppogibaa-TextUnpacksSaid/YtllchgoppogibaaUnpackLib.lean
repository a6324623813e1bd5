/- A text's bytes out of its cells; the bytes of any cells. -/
import Derived.Test.YtllchgoppogibaaPackLib
import Derived.Test.YtllchgoppogibaaPrintx5
import Derived.Test.YtllchgoppogibaaQuoteLib
set_option linter.unusedVariables false
namespace Go.Proofs.Ytllchgoppogibaa.Pure
open Go.RowKit Go.Proofs.Ytllchgoppogibaa.Print Go.Proofs.YtllchgoppogibaaW.PrintWords Go.Proofs.YtllchgoppogibaaW.PrintLast

theorem u64_wrap64 (x : Int) (h0 : 0 ≤ x) (h1 : x < 18446744073709551616) : IntKind.u64.wrap (wrap64 x) = x := by
  rw [IntKind.wrap_u64]
  unfold wrap64
  omega
theorem cellBytes_cellAt (s : ByteArray) (p : Nat) : TextMath.cellBytes (TextMath.cellAt s p) = [bt s (p : Nat), bt s (p + 1 : Nat), bt s (p + 2 : Nat), bt s (p + 3 : Nat), bt s (p + 4 : Nat), bt s (p + 5 : Nat), bt s (p + 6 : Nat), bt s (p + 7 : Nat)] := by
  have h0 := bt_range s (p : Nat)
  have h1 := bt_range s (p + 1 : Nat)
  have h2 := bt_range s (p + 2 : Nat)
  have h3 := bt_range s (p + 3 : Nat)
  have h4 := bt_range s (p + 4 : Nat)
  have h5 := bt_range s (p + 5 : Nat)
  have h6 := bt_range s (p + 6 : Nat)
  have h7 := bt_range s (p + 7 : Nat)
  unfold TextMath.cellBytes TextMath.ub TextMath.cellAt
  generalize bt s (p : Nat) = b0 at *
  generalize bt s (p + 1 : Nat) = b1 at *
  generalize bt s (p + 2 : Nat) = b2 at *
  generalize bt s (p + 3 : Nat) = b3 at *
  generalize bt s (p + 4 : Nat) = b4 at *
  generalize bt s (p + 5 : Nat) = b5 at *
  generalize bt s (p + 6 : Nat) = b6 at *
  generalize bt s (p + 7 : Nat) = b7 at *
  have hc : 0 ≤ TextMath.cellSum b0 b1 b2 b3 b4 b5 b6 b7 ∧ TextMath.cellSum b0 b1 b2 b3 b4 b5 b6 b7 < 18446744073709551616 := by unfold TextMath.cellSum; omega
  rw [u64_wrap64 _ hc.1 hc.2]
  unfold TextMath.cellSum
  simp only [Nat.mul_zero, Nat.mul_one, Nat.reduceMul, Int.reducePow, List.cons.injEq, and_true]
  refine ⟨by omega, by omega, by omega, by omega, by omega, by omega, by omega, by omega⟩
/-- The cells' bytes: the text's, and noughts behind them. -/
theorem unb_packN_get (s : ByteArray) : ∀ (n i : Nat), i < 8 * n → (TextMath.unb (TextMath.packN s n))[i]? = some (bt s (i : Nat)) := by
  intro n
  induction n with
  | zero => intro i hi; omega
  | succ n ih =>
    intro i hi
    rw [TextMath.packN_succ]
    have e : TextMath.unb (TextMath.packN s n ++ [TextMath.cellAt s (8 * n)]) = TextMath.unb (TextMath.packN s n) ++ TextMath.cellBytes (TextMath.cellAt s (8 * n)) := by simp [TextMath.unb]
    have hl : (TextMath.unb (TextMath.packN s n)).length = 8 * n := by rw [TextMath.unb_length, TextMath.packN_length]
    rw [e]
    by_cases h : i < 8 * n
    · rw [List.getElem?_append_left (by omega)]
      exact ih i h
    · rw [List.getElem?_append_right (by omega), hl, cellBytes_cellAt]
      obtain ⟨j, hj⟩ : ∃ j, i = 8 * n + j := ⟨i - 8 * n, by omega⟩
      subst hj
      rw [Nat.add_sub_cancel_left]
      match j, (show j < 8 by omega) with
      | 0, _ => rfl
      | 1, _ => rfl
      | 2, _ => rfl
      | 3, _ => rfl
      | 4, _ => rfl
      | 5, _ => rfl
      | 6, _ => rfl
      | 7, _ => rfl
theorem unb_packA (s : ByteArray) : (TextMath.unb (TextMath.packA s)).take s.size = bytesI s := by
  apply List.ext_getElem?
  intro i
  by_cases h : i < s.size
  · rw [List.getElem?_take_of_lt h]
    have h2 : i < (bytesI s).length := by rw [bytesI_length]; exact h
    rw [List.getElem?_eq_getElem h2, bytesI_get]
    exact unb_packN_get s _ i (by omega)
  · rw [List.getElem?_eq_none (by rw [List.length_take]; omega), List.getElem?_eq_none (by rw [bytesI_length]; omega)]
theorem unb_rest (s : ByteArray) : ((TextMath.unb (TextMath.packA s)).drop s.size).all (· == 0) = true := by
  rw [List.all_eq_true]
  intro x hx
  obtain ⟨i, hi⟩ := List.getElem?_of_mem hx
  rw [List.getElem?_drop] at hi
  have hlt : s.size + i < 8 * ((s.size + 7) / 8) := by
    rcases Nat.lt_or_ge (s.size + i) (8 * ((s.size + 7) / 8)) with h | h
    · exact h
    · rw [List.getElem?_eq_none (by rw [TextMath.unb_length, packA_length]; exact h)] at hi
      cases hi
  have h2 := unb_packN_get s ((s.size + 7) / 8) (s.size + i) hlt
  have h3 : some x = some (bt s ((s.size + i : Nat) : Int)) := by rw [← hi]; exact h2
  injection h3 with h3
  rw [h3, bt_beyond s _ (by omega)]
  rfl
theorem str_bytesI (s : ByteArray) : strOfNums (bytesI s) = s := by
  apply ByteArray.ext
  apply Array.toList_inj.1
  rw [strOfNums_data]
  unfold bytesI
  have e : ((fun n : Int => UInt8.ofNat n.toNat) ∘ fun b : UInt8 => (b.toNat : Int)) = id := by
    funext b
    simp
  rw [List.map_map, e, List.map_id]
theorem unp_pack (s : ByteArray) : TextMath.unp (TextMath.packA s) (s.size : Int) = (s, 0) := by
  unfold TextMath.unp
  rw [if_neg (by rw [packA_length]; omega), Int.toNat_natCast, if_pos (unb_rest s), unb_packA, str_bytesI]
theorem tunpack (l : List Int) (n : Int) (hl : l.length * 8 ≤ 140737488351232) (h0 : -9223372036854775808 ≤ n) (h1 : n ≤ 9223372036854775807) : text_Unpack.f l n = some (TextMath.unp l n) := by
  unfold text_Unpack.f
  rw [if_pos ⟨hl, h0, h1⟩]
end Go.Proofs.Ytllchgoppogibaa.Pure
