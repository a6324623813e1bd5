/- A quote is read as the text whose quote it is. -/
import Derived.Test.YtllchgoppogibaaUnquoteLib
set_option linter.unusedVariables false
namespace Go.Proofs.Ytllchgoppogibaa.Pure
open Go.RowKit Go.Proofs.Ytllchgoppogibaa.Print Go.Proofs.YtllchgoppogibaaW.PrintWords Go.Proofs.YtllchgoppogibaaW.PrintLast

theorem bytesI_str (l : List Int) (hr : ∀ x ∈ l, 0 ≤ x ∧ x ≤ 255) : bytesI (strOfNums l) = l := by
  unfold bytesI
  rw [strOfNums_data, List.map_map]
  conv => rhs; rw [← List.map_id l]
  apply List.map_congr_left
  intro x hx
  have := hr x hx
  simp
  omega
theorem hx_range (i : Int) (h0 : 0 ≤ i) (h1 : i < 16) : 0 ≤ hx i ∧ hx i ≤ 255 := by
  obtain ⟨n, rfl⟩ := Int.eq_ofNat_of_zero_le h0
  match n, (show n < 16 by omega) with
  | 0, _ | 1, _ | 2, _ | 3, _ | 4, _ | 5, _ | 6, _ | 7, _ | 8, _ | 9, _ | 10, _ | 11, _ | 12, _ | 13, _ | 14, _ | 15, _ => decide
theorem qb_range (b : Int) (h0 : 0 ≤ b) (h1 : b ≤ 255) : ∀ x ∈ qb b, 0 ≤ x ∧ x ≤ 255 := by
  intro x hx
  unfold qb at hx
  have a1 := hx_range (b / 16) (by omega) (by omega)
  have a2 := hx_range (b % 16) (by omega) (by omega)
  split at hx
  · simp at hx
    omega
  · simp at hx
    omega
theorem qL_range (l : List Int) (hr : ∀ x ∈ l, 0 ≤ x ∧ x ≤ 255) : ∀ x ∈ qL l, 0 ≤ x ∧ x ≤ 255 := by
  intro x hx
  unfold qL at hx
  rw [List.mem_flatMap] at hx
  obtain ⟨b, hb, hx⟩ := hx
  have := hr b hb
  exact qb_range b this.1 this.2 x hx
theorem quoteL_range (s : ByteArray) : ∀ x ∈ quoteL s, 0 ≤ x ∧ x ≤ 255 := by
  intro x hx
  unfold quoteL at hx
  simp only [List.mem_append, List.mem_singleton, List.append_assoc] at hx
  rcases hx with h | h | h
  · omega
  · exact qL_range _ (bytesI_range s) x h
  · omega
theorem unq_quote (s : ByteArray) : unq (strOfNums (quoteL s)) = (s, 0) := by
  have hB := bytesI_str (quoteL s) (quoteL_range s)
  have hl : (quoteL s).length = (qL (bytesI s)).length + 2 := by simp [quoteL]
  have hsz : (strOfNums (quoteL s)).size = (qL (bytesI s)).length + 2 := by rw [strOfNums_size, hl]
  have b0 : bt (strOfNums (quoteL s)) 0 = 34 := by
    have h := bt_getD (strOfNums (quoteL s)) 0
    rw [hB] at h
    exact h
  have b1 : bt (strOfNums (quoteL s)) (((strOfNums (quoteL s)).size - 1 : Nat) : Int) = 34 := by
    rw [bt_getD, hB, hsz]
    simp [quoteL]
  unfold unq
  rw [if_neg (by omega), if_pos ⟨b0, b1⟩, hB, hsz]
  have e : ((quoteL s).take ((qL (bytesI s)).length + 2 - 1)).drop 1 = qL (bytesI s) := by
    simp [quoteL]
  rw [e, unqL_qL _ _ (bytesI_range s) (by omega)]
  show (strOfNums ([] ++ bytesI s), (0 : Int)) = (s, 0)
  rw [List.nil_append, str_bytesI]
end Go.Proofs.Ytllchgoppogibaa.Pure
