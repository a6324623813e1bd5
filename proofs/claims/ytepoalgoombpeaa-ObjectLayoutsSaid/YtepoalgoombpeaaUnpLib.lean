/- PROVED: cells told as a text, as the program and as the document tell them, in closed form (the texts of layer 2's claims). Conditions: those each theorem states. -/
import Derived.Test.YtepoalgoombpeaaCellsLib
import Derived.Test.YtepoalgoombpeaaPrintx23
import Derived.Test.YtepoalgoombpeaaPrintx13
import Derived.Test.YtepoalgoombpeaaPrintx27
import Derived.Test.YtepoalgoombpeaaPrintx28
set_option linter.unusedVariables false
set_option linter.unusedSimpArgs false
namespace Go.Proofs.Ytepoalgoombpeaa.Pure
open Go.RowKit Go.Proofs.Ytepoalgoombpeaa.Print Go.Proofs.YtepoalgoombpeaaW.PrintWords Go.Proofs.YtepoalgoombpeaaW.PrintLast
theorem rCellsL (a0 a1 a2 a3 a4 a5 a6 a7 : Int) (l8 : List Int) (l : List S38) (hl : l.length ≤ 10000) : ∀ (d i : Nat) (acc : List Int), i + d = l.length → acc.length + 2 * d < 100000 → Ev (fun k => heirloomref04_Cells.l0 k acc (i : Int) a0 a1 a2 a3 a4 a5 a6 a7 l8 l) (tailZ acc (l.drop i)) := by
  intro d
  induction d with
  | zero =>
    intro i acc h0 ha
    refine Ev.step (f := fun _ => some (acc, 0)) (fun k => ?_) ?_
    · simp only [heirloomref04_Cells.l0]
      rw [if_neg (by omega)]
    · have e : l.drop i = [] := List.drop_eq_nil_of_le (by omega)
      rw [e]
      simp only [tailZ, flat, List.all_nil, List.flatMap_nil, List.append_nil, if_true]
      exact evNow _
  | succ d ih =>
    intro i acc h0 ha
    have hi : i < l.length := by omega
    have hw : wrap64 ((i : Int) + 1) = ((i + 1 : Nat) : Int) := by unfold wrap64; omega
    have e : l.drop i = l[i] :: l.drop (i + 1) := List.drop_eq_getElem_cons hi
    rw [e]
    have hv : Ev (fun k => heirloomref04_Value.f k l[i].f0 l[i].f1) (okV l[i]) := evFrom 1 (fun m => rValue m _ _)
    refine Ev.step (f := fun k => (heirloomref04_Value.f k l[i].f0 l[i].f1).bind fun t => if t = true then heirloomref04_Cells.l0 k (acc ++ [l[i].f0, l[i].f1]) ((i + 1 : Nat) : Int) a0 a1 a2 a3 a4 a5 a6 a7 l8 l else some ([], 6)) (fun k => ?_) ?_
    · simp only [heirloomref04_Cells.l0]
      rw [if_pos (by omega), if_pos (by omega), rd_val hi, hw]
      congr 1
      funext t
      split
      · simp only [Option.bind_some]
        rw [if_pos (by simp; omega)]
      · rfl
    · refine Ev.bind (f := fun k t => if t = true then heirloomref04_Cells.l0 k (acc ++ [l[i].f0, l[i].f1]) ((i + 1 : Nat) : Int) a0 a1 a2 a3 a4 a5 a6 a7 l8 l else some ([], 6)) hv ?_
      cases hok : okV l[i] with
      | true =>
        simp only [if_true]
        have := ih (i + 1) (acc ++ [l[i].f0, l[i].f1]) (by omega) (by simp; omega)
        simp only [tailZ, List.all_cons, hok, Bool.true_and, flat_cons, List.append_assoc, List.cons_append, List.nil_append] at this ⊢
        exact this
      | false =>
        simp only [Bool.false_eq_true, if_false, tailZ, List.all_cons, hok, Bool.false_and]
        exact evNow _
theorem rCells (a0 a1 a2 a3 a4 a5 a6 a7 : Int) (l8 : List Int) (l9 : List S38) (h8 : l8.length ≤ 10000) (h9 : l9.length ≤ 10000) : Ev (fun k => heirloomref04_Cells.f k a0 a1 a2 a3 a4 a5 a6 a7 l8 l9) (cellsZ a0 a1 a2 a3 a4 a5 a6 a7 l8 l9) := by
  unfold cellsZ
  have hR : Ev (fun k => heirloomref04_Right.f k a0 a1 a2 a3 a4 a5 a6 a7) (rightZ a0 a1 a2 a3 a4 a5 a6 a7) := evFrom 1 (fun m => rRight m _ _ _ _ _ _ _ _)
  unfold heirloomref04_Cells.f
  refine Ev.bind (f := fun k t => (if t = 0 then (if a6 = (l8.length : Int) then (heirloomref04_Cells.j0 k (a7 != (l9.length : Int)) a0 a1 a2 a3 a4 a5 a6 a7 l8 l9) else (heirloomref04_Cells.j0 k true a0 a1 a2 a3 a4 a5 a6 a7 l8 l9)) else (some (([] : List Int), t)))) hR ?_
  by_cases h : rightZ a0 a1 a2 a3 a4 a5 a6 a7 = 0
  · rw [if_neg (by simp [h])]
    simp only [h, if_true]
    by_cases hc : a6 = (l8.length : Int) ∧ a7 = (l9.length : Int)
    · rw [if_pos hc]
      refine Ev.congr (f := fun k => heirloomref04_Cells.j0 k false a0 a1 a2 a3 a4 a5 a6 a7 l8 l9) (fun k => ?_) ?_
      · rw [if_pos hc.1, bne_eq_false_iff_eq.2 hc.2]
      · refine Ev.step (f := fun k => heirloomref04_Cells.l0 k ([a0 + 16 * a1 + 64 * a2 + 512 * a3 + 2048 * a4, a6 + 8192 * a7 + 67108864 * a5] ++ l8) ((0 : Nat) : Int) a0 a1 a2 a3 a4 a5 a6 a7 l8 l9) (fun k => ?_) ?_
        · simp only [heirloomref04_Cells.j0, Bool.false_eq_true, if_false]
          rw [first_eq h, second_eq h]
          simp only [Option.bind_some]
          rw [if_pos (by simp), if_pos (by simp; omega)]
          rfl
        · have := rCellsL a0 a1 a2 a3 a4 a5 a6 a7 l8 l9 h9 l9.length 0 ([a0 + 16 * a1 + 64 * a2 + 512 * a3 + 2048 * a4, a6 + 8192 * a7 + 67108864 * a5] ++ l8) (by omega) (by simp; omega)
          simpa using this
    · rw [if_neg hc]
      refine Ev.congr (f := fun k => heirloomref04_Cells.j0 k true a0 a1 a2 a3 a4 a5 a6 a7 l8 l9) (fun k => ?_) ?_
      · by_cases c6 : a6 = (l8.length : Int)
        · rw [if_pos c6, bne_iff_ne.2 (fun c7 => hc ⟨c6, c7⟩)]
        · rw [if_neg c6]
      · refine Ev.step (f := fun _ => some ([], 1)) (fun k => ?_) (evNow _)
        simp only [heirloomref04_Cells.j0, if_true]
  · rw [if_pos h]
    simp only [if_neg h]
    exact evNow _
end Go.Proofs.Ytepoalgoombpeaa.Pure

namespace Go.Proofs.Ytepoalgoombpeaa.Pure.U
open Go.RowKit Go.Proofs.Ytepoalgoombpeaa.Print Go.Proofs.YtepoalgoombpeaaW.PrintWords Go.Proofs.YtepoalgoombpeaaW.PrintLast
def cellsZ (n : Int) : Int := if n < 1 then 0 else (n - 1) / 8 + 1
theorem cells_ev0 (n : Int) (h1 : n ≤ 4611686018427387904) : ∀ (d : Nat) (x : Int), 0 ≤ x → x + d = cellsZ n → Ev (fun k => heirloomref02_Cells.l0 k n x) (cellsZ n) := by
  intro d
  induction d with
  | zero =>
    intro x h0 hx
    have hx' : x = cellsZ n := by omega
    refine Ev.step (f := fun _ => some (cellsZ n)) (fun k => ?_) (evNow _)
    simp only [heirloomref02_Cells.l0]
    have e : wrap64 (8 * x) = 8 * x := by unfold cellsZ at hx; unfold wrap64; split at hx <;> omega
    rw [e, if_neg (by unfold cellsZ at hx; split at hx <;> omega), hx']
  | succ d ih =>
    intro x h0 hx
    refine Ev.step (fun k => ?_) (ih (x + 1) (by omega) (by omega))
    simp only [heirloomref02_Cells.l0]
    have e : wrap64 (8 * x) = 8 * x := by unfold cellsZ at hx; unfold wrap64; split at hx <;> omega
    have e2 : wrap64 (x + 1) = x + 1 := by unfold cellsZ at hx; unfold wrap64; split at hx <;> omega
    rw [e, e2, if_pos (by unfold cellsZ at hx; split at hx <;> omega)]
theorem cells_ev (n : Int) (h1 : n ≤ 4611686018427387904) : Ev (fun k => heirloomref02_Cells.f k n) (cellsZ n) := by
  have h : 0 ≤ cellsZ n := by unfold cellsZ; split <;> omega
  exact cells_ev0 n h1 (cellsZ n).toNat 0 (by omega) (by omega)

theorem rd_nat (xs : List Int) (i : Nat) (h : i < xs.length) : rd xs (i : Int) = xs[i] := by
  simp [rd, List.getD_eq_getElem?_getD, List.getElem?_eq_getElem h]
theorem wrap_succ (i : Nat) (h : i < 9223372036854775807) : wrap64 ((i : Int) + 1) = ((i + 1 : Nat) : Int) := by unfold wrap64; omega
def told (X : List Int) (n : Int) (i : Nat) : ByteArray × Int := if (X.drop i).all (· == 0) = true then (strOfNums (X.take n.toNat), 0) else (⟨#[]⟩, 6)
theorem l2_ev (n : Int) (X : List Int) (h0 : 0 ≤ n) (hn : n ≤ X.length) (hX : X.length < 4611686018427387904) : ∀ (d i : Nat), i + d = X.length → Ev (fun k => heirloomref02_Unpack.l2 k n X (i : Int)) (told X n i) := by
  intro d
  induction d with
  | zero =>
    intro i hi
    have e : told X n i = (strOfNums (X.take n.toNat), 0) := by unfold told; rw [List.drop_of_length_le (by omega)]; rfl
    rw [e]
    refine Ev.step (f := fun _ => some _) (fun k => ?_) (evNow _)
    simp only [heirloomref02_Unpack.l2]
    rw [if_neg (by omega), if_pos h0, if_pos hn]
  | succ d ih =>
    intro i hi
    have hlt : i < X.length := by omega
    by_cases hz : X[i] = 0
    · have e : told X n i = told X n (i + 1) := by
        unfold told
        rw [List.drop_eq_getElem_cons hlt, List.all_cons, hz]
        rfl
      rw [e]
      refine Ev.step (fun k => ?_) (ih (i + 1) (by omega))
      simp only [heirloomref02_Unpack.l2]
      rw [if_pos (by omega), if_pos (by omega), rd_nat X i hlt, if_pos hz, wrap_succ i (by omega)]
    · have e : told X n i = (⟨#[]⟩, 6) := by
        unfold told
        rw [List.drop_eq_getElem_cons hlt, List.all_cons, if_neg (by simp [hz])]
      rw [e]
      refine Ev.step (f := fun _ => some _) (fun k => ?_) (evNow _)
      simp only [heirloomref02_Unpack.l2]
      rw [if_pos (by omega), if_pos (by omega), rd_nat X i hlt, if_neg hz]
theorem l1_step (l acc : List Int) (n i x : Int) (q : Nat) (r : ByteArray × Int) (hq : q < 8) (h0 : 0 ≤ x) (h1 : x < 18446744073709551616) (ha : acc.length < 140737488355328)
    (h : Ev (fun k => heirloomref02_Unpack.l1 k l n (acc ++ [x % 256]) i (x / 256) ((q + 1 : Nat) : Int)) r) : Ev (fun k => heirloomref02_Unpack.l1 k l n acc i x (q : Int)) r := by
  refine Ev.step (fun k => ?_) h
  simp only [heirloomref02_Unpack.l1]
  have e1 : Int.tmod x 256 % 256 = x % 256 := by rw [Int.tmod_eq_emod_of_nonneg h0]; omega
  have e2 : IntKind.u64.wrap (Int.tdiv x 256) = x / 256 := by rw [Int.tdiv_eq_ediv_of_nonneg h0, IntKind.wrap_u64]; omega
  rw [if_pos (by omega), if_pos ha, e1, e2, wrap_succ q (by omega)]
theorem l0_ev (l : List Int) (n : Int) (h0 : 0 ≤ n) (hn : n ≤ 8 * (l.length : Int)) (hl : l.length * 8 ≤ 140737488351232) : ∀ (d i : Nat), i + d = l.length → Ev (fun k => heirloomref02_Unpack.l0 k l n (TextMath.unb (l.take i)) (i : Int)) (told (TextMath.unb l) n n.toNat) := by
  intro d
  induction d with
  | zero =>
    intro i hi
    have e : l.take i = l := List.take_of_length_le (by omega)
    rw [e]
    have h := l2_ev n (TextMath.unb l) h0 (by rw [TextMath.unb_length]; omega) (by rw [TextMath.unb_length]; omega) ((TextMath.unb l).length - n.toNat) n.toNat (by rw [TextMath.unb_length]; omega)
    rw [show ((n.toNat : Nat) : Int) = n by omega] at h
    refine Ev.step (fun k => ?_) h
    simp only [heirloomref02_Unpack.l0]
    rw [if_neg (by omega)]
  | succ d ih =>
    intro i hi
    have hlt : i < l.length := by omega
    have h := ih (i + 1) (by omega)
    have hu : (TextMath.unb (l.take i)).length = 8 * i := by rw [TextMath.unb_length, List.length_take]; omega
    refine Ev.step (f := fun k => heirloomref02_Unpack.l1 k l n (TextMath.unb (l.take i)) (i : Int) (IntKind.u64.wrap (rd l (i : Int))) ((0 : Nat) : Int)) (fun k => ?_) ?_
    · simp only [heirloomref02_Unpack.l0]
      rw [if_pos (by omega), if_pos (by omega)]
      rfl
    · have hx : 0 ≤ IntKind.u64.wrap (rd l (i : Int)) ∧ IntKind.u64.wrap (rd l (i : Int)) < 18446744073709551616 := by rw [IntKind.wrap_u64]; omega
      rw [TextMath.unb_take_succ l i hlt] at h
      unfold TextMath.cellBytes TextMath.ub at h
      generalize IntKind.u64.wrap (rd l (i : Int)) = x at hx h ⊢
      obtain ⟨hx0, hx1⟩ := hx
      generalize TextMath.unb (l.take i) = A at hu h ⊢
      simp only [Nat.mul_zero, Nat.mul_one, Nat.reduceMul, Int.reducePow, Int.ediv_one] at h
      refine l1_step l _ n _ x 0 _ (by omega) (by omega) (by omega) (by omega) ?_
      refine l1_step l _ n _ _ 1 _ (by omega) (by omega) (by omega) (by simp; omega) ?_
      refine l1_step l _ n _ _ 2 _ (by omega) (by omega) (by omega) (by simp; omega) ?_
      refine l1_step l _ n _ _ 3 _ (by omega) (by omega) (by omega) (by simp; omega) ?_
      refine l1_step l _ n _ _ 4 _ (by omega) (by omega) (by omega) (by simp; omega) ?_
      refine l1_step l _ n _ _ 5 _ (by omega) (by omega) (by omega) (by simp; omega) ?_
      refine l1_step l _ n _ _ 6 _ (by omega) (by omega) (by omega) (by simp; omega) ?_
      refine l1_step l _ n _ _ 7 _ (by omega) (by omega) (by omega) (by simp; omega) ?_
      refine Ev.step (fun k => ?_) h
      simp only [heirloomref02_Unpack.l1]
      rw [if_neg (by omega), wrap_succ i (by omega)]
      congr 1
      simp only [List.append_assoc, List.cons_append, List.nil_append]
      rw [show x / 256 / 256 = x / 65536 by omega, show x / 65536 / 256 = x / 16777216 by omega, show x / 16777216 / 256 = x / 4294967296 by omega, show x / 4294967296 / 256 = x / 1099511627776 by omega, show x / 1099511627776 / 256 = x / 281474976710656 by omega, show x / 281474976710656 / 256 = x / 72057594037927936 by omega]
theorem runpack_ev (l : List Int) (n : Int) (hl : l.length * 8 ≤ 140737488351232) (h0 : -9223372036854775808 ≤ n) (h1 : n ≤ 9223372036854775807) : Ev (fun k => heirloomref02_Unpack.f k l n) (TextMath.unp l n) := by
  have e8 : wrap64 (8 * (l.length : Int)) = 8 * (l.length : Int) := by unfold wrap64; omega
  have bad : Ev (fun k => heirloomref02_Unpack.j0 k l n true) (⟨#[]⟩, 1) := by
    refine Ev.step (f := fun _ => some _) (fun k => ?_) (evNow _)
    simp only [heirloomref02_Unpack.j0, if_true]
  unfold heirloomref02_Unpack.f
  rw [e8]
  by_cases hneg : n < 0
  · simp only [if_pos hneg]
    have e : TextMath.unp l n = (⟨#[]⟩, 1) := by unfold TextMath.unp; rw [if_pos (.inl hneg)]
    rw [e]
    exact bad
  · simp only [if_neg hneg]
    by_cases hbig : n > 8 * (l.length : Int)
    · simp only [if_pos hbig]
      have e : TextMath.unp l n = (⟨#[]⟩, 1) := by unfold TextMath.unp; rw [if_pos (.inr (by omega))]
      rw [e]
      exact bad
    · simp only [if_neg hbig]
      refine Ev.bind (g := fun k => heirloomref02_Cells.f k n) (cells_ev n (by omega)) ?_
      have ec : cellsZ n = (n + 7) / 8 := by unfold cellsZ; split <;> omega
      rw [ec]
      by_cases hne : (n + 7) / 8 = (l.length : Int)
      · have hb : ((n + 7) / 8 != (l.length : Int)) = false := by simp [hne]
        simp only [hb]
        refine Ev.step (f := fun k => heirloomref02_Unpack.l0 k l n [] 0) (fun k => ?_) ?_
        · simp only [heirloomref02_Unpack.j0]
          rfl
        · have e : TextMath.unp l n = told (TextMath.unb l) n n.toNat := by unfold TextMath.unp told; rw [if_neg (by omega)]
          rw [e]
          exact l0_ev l n (by omega) (by omega) hl l.length 0 (by omega)
      · have hb : ((n + 7) / 8 != (l.length : Int)) = true := by simp [hne]
        simp only [hb]
        have e : TextMath.unp l n = (⟨#[]⟩, 1) := by unfold TextMath.unp; rw [if_pos (.inr hne)]
        rw [e]
        exact bad
theorem tunpack (l : List Int) (n : Int) (hl : l.length * 8 ≤ 140737488351232) (h0 : -9223372036854775808 ≤ n) (h1 : n ≤ 9223372036854775807) : text_Unpack.f l n = some (TextMath.unp l n) := by
  unfold text_Unpack.f
  rw [if_pos ⟨hl, h0, h1⟩]
end Go.Proofs.Ytepoalgoombpeaa.Pure.U
