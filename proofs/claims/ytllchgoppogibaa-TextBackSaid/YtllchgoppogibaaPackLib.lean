/- Cells: how many, each from its bytes, and the document's own loops. -/
import Derived.Test.YtllchgoppogibaaPrintx2
import Derived.Test.YtllchgoppogibaaAlive
set_option linter.unusedVariables false
namespace Go.Proofs.Ytllchgoppogibaa.Pure
open Go.RowKit Go.Proofs.Ytllchgoppogibaa.Print Go.Proofs.YtllchgoppogibaaW.PrintWords Go.Proofs.YtllchgoppogibaaW.PrintLast

def cellsZ (n : Int) : Int := if n < 1 then 0 else (n - 1) / 8 + 1
theorem tcells (n : Int) (h0 : -9223372036854775808 ≤ n) (h1 : n ≤ 4611686018427387904) : text_Cells.f n = some (cellsZ n) := by
  unfold text_Cells.f cellsZ
  by_cases h : n < 1
  · rw [if_pos h, if_pos h]
  · rw [if_neg h, if_neg h]
    have e1 : wrap64 (n - 1) = n - 1 := by unfold wrap64; omega
    rw [e1, Int.tdiv_eq_ediv_of_nonneg (by omega)]
    congr 1
    unfold wrap64
    omega
theorem cells_ev0 (n : Int) (h1 : n ≤ 4611686018427387904) : ∀ (d : Nat) (x : Int), 0 ≤ x → x + d = cellsZ n → Ev (fun k => heirloomref02_Cells.l0 k n x) (cellsZ n) := by
  intro d
  induction d with
  | zero =>
    intro x h0 hx
    have hx' : x = cellsZ n := by omega
    refine Ev.step (f := fun _ => some (cellsZ n)) (fun k => ?_) (Ev.now _)
    simp only [heirloomref02_Cells.l0]
    have e : wrap64 (8 * x) = 8 * x := by unfold cellsZ at hx; unfold wrap64; split at hx <;> omega
    rw [e, if_neg (by unfold cellsZ at hx; split at hx <;> omega), hx']
  | succ d ih =>
    intro x h0 hx
    refine Ev.step (fun k => ?_) (ih (x + 1) (by omega) (by omega))
    simp only [heirloomref02_Cells.l0]
    have e : wrap64 (8 * x) = 8 * x := by unfold cellsZ at hx; unfold wrap64; split at hx <;> omega
    have e2 : wrap64 (x + 1) = x + 1 := by unfold cellsZ at hx; unfold wrap64; split at hx <;> omega
    rw [e, e2, if_pos (by unfold cellsZ at hx; split at hx <;> omega)]
theorem cells_ev (n : Int) (h1 : n ≤ 4611686018427387904) : Ev (fun k => heirloomref02_Cells.f k n) (cellsZ n) := by
  have h : 0 ≤ cellsZ n := by unfold cellsZ; split <;> omega
  exact cells_ev0 n h1 (cellsZ n).toNat 0 (by omega) (by omega)

theorem rd_nat (xs : List Int) (i : Nat) (h : i < xs.length) : rd xs (i : Int) = xs[i] := by
  simp [rd, List.getD_eq_getElem?_getD, List.getElem?_eq_getElem h]
theorem wrap_succ (i : Nat) (h : i < 9223372036854775807) : wrap64 ((i : Int) + 1) = ((i + 1 : Nat) : Int) := by unfold wrap64; omega
theorem same_ev0 (xs ys : List Int) (hl : xs.length = ys.length) (hb : xs.length < 4611686018427387904) : ∀ (d i : Nat), i + d = xs.length → Ev (fun k => heirloomlaw02_Same.l0 k xs ys (i : Int)) (decide (xs.drop i = ys.drop i)) := by
  intro d
  induction d with
  | zero =>
    intro i hi
    have e : decide (xs.drop i = ys.drop i) = true := by rw [List.drop_of_length_le (by omega), List.drop_of_length_le (by omega)]; rfl
    rw [e]
    exact Ev.step (f := fun _ => some true) (fun k => by simp only [heirloomlaw02_Same.l0]; rw [if_neg (by omega)]) (Ev.now _)
  | succ d ih =>
    intro i hi
    have hx : i < xs.length := by omega
    have hy : i < ys.length := by omega
    rw [List.drop_eq_getElem_cons hx, List.drop_eq_getElem_cons hy]
    by_cases e : xs[i] = ys[i]
    · have e2 : decide (xs[i] :: xs.drop (i + 1) = ys[i] :: ys.drop (i + 1)) = decide (xs.drop (i + 1) = ys.drop (i + 1)) := by rw [decide_eq_decide, List.cons.injEq]; exact ⟨fun h => h.2, fun h => ⟨e, h⟩⟩
      rw [e2]
      refine Ev.step (fun k => ?_) (ih (i + 1) (by omega))
      simp only [heirloomlaw02_Same.l0]
      rw [if_pos (by omega), if_pos (by omega), if_pos (by omega), rd_nat xs i hx, rd_nat ys i hy, if_pos e, wrap_succ i (by omega)]
    · have e2 : decide (xs[i] :: xs.drop (i + 1) = ys[i] :: ys.drop (i + 1)) = false := by rw [decide_eq_false_iff_not, List.cons.injEq]; exact fun h => e h.1
      rw [e2]
      refine Ev.step (f := fun _ => some false) (fun k => ?_) (Ev.now _)
      simp only [heirloomlaw02_Same.l0]
      rw [if_pos (by omega), if_pos (by omega), if_pos (by omega), rd_nat xs i hx, rd_nat ys i hy, if_neg e]
theorem same_ev (xs ys : List Int) (hb : xs.length < 4611686018427387904) : Ev (fun k => heirloomlaw02_Same.f k xs ys) (decide (xs = ys)) := by
  by_cases hl : xs.length = ys.length
  · have h := same_ev0 xs ys hl hb xs.length 0 (by omega)
    simp only [List.drop_zero] at h
    refine Ev.congr (fun k => ?_) h
    unfold heirloomlaw02_Same.f
    rw [if_pos (by omega)]
    rfl
  · have e : decide (xs = ys) = false := by
      rw [decide_eq_false_iff_not]
      rintro rfl
      exact hl rfl
    rw [e]
    refine Ev.congr (f := fun _ => some false) (fun k => ?_) (Ev.now _)
    unfold heirloomlaw02_Same.f
    rw [if_neg (by omega)]

theorem bt_beyond (s : ByteArray) (i : Nat) (h : s.size ≤ i) : bt s (i : Int) = 0 := by
  unfold bt
  rw [dif_neg (by simpa using h)]
theorem cell_step (s : ByteArray) (p i : Nat) (x r : Int) (hp : p + i < 4611686018427387904) (h0 : 0 ≤ x) (hx : x * 256 + 255 < 18446744073709551616)
    (h : Ev (fun k => heirloomref02_cell.l0 k s (p : Int) (x * 256 + bt s ((p + i : Nat) : Int)) ((i : Int) - 1)) r) : Ev (fun k => heirloomref02_cell.l0 k s (p : Int) x (i : Int)) r := by
  refine Ev.step (fun k => ?_) h
  simp only [heirloomref02_cell.l0]
  have hb := bt_range s ((p + i : Nat) : Int)
  have e1 : wrap64 ((p : Int) + (i : Int)) = ((p + i : Nat) : Int) := by unfold wrap64; omega
  have e2 : wrap64 ((i : Int) - 1) = (i : Int) - 1 := by unfold wrap64; omega
  have e3 : IntKind.u64.wrap (x * 256) = x * 256 := by rw [IntKind.wrap_u64]; omega
  rw [if_pos (by omega), e1, e2, e3]
  by_cases hs : p + i < s.size
  · have e4 : IntKind.u64.wrap (bt s ((p + i : Nat) : Int)) = bt s ((p + i : Nat) : Int) := by rw [IntKind.wrap_u64]; omega
    have e5 : IntKind.u64.wrap (x * 256 + bt s ((p + i : Nat) : Int)) = x * 256 + bt s ((p + i : Nat) : Int) := by rw [IntKind.wrap_u64]; omega
    rw [if_pos (by omega), if_pos (by omega), e4, e5]
  · rw [if_neg (by omega), bt_beyond s (p + i) (by omega), Int.add_zero]
theorem cell_ev (s : ByteArray) (p : Nat) (hp : p < 4611686018427387000) : Ev (fun k => heirloomref02_cell.f k s (p : Int)) (TextMath.cellAt s p) := by
  have h0 := bt_range s ((p + 0 : Nat) : Int)
  have h1 := bt_range s ((p + 1 : Nat) : Int)
  have h2 := bt_range s ((p + 2 : Nat) : Int)
  have h3 := bt_range s ((p + 3 : Nat) : Int)
  have h4 := bt_range s ((p + 4 : Nat) : Int)
  have h5 := bt_range s ((p + 5 : Nat) : Int)
  have h6 := bt_range s ((p + 6 : Nat) : Int)
  have h7 := bt_range s ((p + 7 : Nat) : Int)
  unfold heirloomref02_cell.f TextMath.cellAt
  refine cell_step s p 7 0 _ (by omega) (by omega) (by omega) ?_
  refine cell_step s p 6 _ _ (by omega) (by omega) (by omega) ?_
  refine cell_step s p 5 _ _ (by omega) (by omega) (by omega) ?_
  refine cell_step s p 4 _ _ (by omega) (by omega) (by omega) ?_
  refine cell_step s p 3 _ _ (by omega) (by omega) (by omega) ?_
  refine cell_step s p 2 _ _ (by omega) (by omega) (by omega) ?_
  refine cell_step s p 1 _ _ (by omega) (by omega) (by omega) ?_
  refine cell_step s p 0 _ _ (by omega) (by omega) (by omega) ?_
  refine Ev.step (f := fun _ => some _) (fun k => ?_) (Ev.now _)
  simp only [heirloomref02_cell.l0]
  rw [if_neg (by omega)]
  congr 2
  unfold TextMath.cellSum
  simp only [Nat.add_zero]
  omega
theorem rpack_ev (s : ByteArray) (hs : s.size ≤ 140737488351232) : ∀ (d j : Nat), j + d = (s.size + 7) / 8 → Ev (fun k => heirloomref02_Pack.l0 k s (TextMath.packN s j) ((8 * j : Nat) : Int)) (TextMath.packA s) := by
  intro d
  induction d with
  | zero =>
    intro j hj
    have e : TextMath.packA s = TextMath.packN s j := by unfold TextMath.packA; rw [← hj]; rfl
    rw [e]
    refine Ev.step (f := fun _ => some _) (fun k => ?_) (Ev.now _)
    simp only [heirloomref02_Pack.l0]
    rw [if_neg (by omega)]
  | succ d ih =>
    intro j hj
    have e : wrap64 (((8 * j : Nat) : Int) + 8) = ((8 * (j + 1) : Nat) : Int) := by unfold wrap64; omega
    refine Ev.step (f := fun k => (heirloomref02_cell.f k s ((8 * j : Nat) : Int)).bind fun t => heirloomref02_Pack.l0 k s (TextMath.packN s j ++ [t]) ((8 * (j + 1) : Nat) : Int)) (fun k => ?_) ?_
    · simp only [heirloomref02_Pack.l0]
      rw [if_pos (by omega), e]
      congr 1
      funext t
      rw [if_pos (by rw [TextMath.packN_length]; omega)]
    · refine Ev.bind (g := fun k => heirloomref02_cell.f k s ((8 * j : Nat) : Int)) (cell_ev s (8 * j) (by omega)) ?_
      rw [← TextMath.packN_succ]
      exact ih (j + 1) (by omega)
theorem tpack (s : ByteArray) (hs : s.size ≤ 140737488351232) : text_Pack.f s = some (TextMath.packA s) := by unfold text_Pack.f; rw [if_pos hs]
theorem packA_length (s : ByteArray) : (TextMath.packA s).length = (s.size + 7) / 8 := TextMath.packN_length _ _
end Go.Proofs.Ytllchgoppogibaa.Pure
