/- PROVED: what laying an object into cells computes, in closed form. Conditions: those each theorem states. -/
import Derived.Test.YtepoalgoombpeaaObjLib
import Derived.Test.YtepoalgoombpeaaPrintx9
import Derived.Test.YtepoalgoombpeaaPrintx10
set_option linter.unusedVariables false
set_option linter.unusedSimpArgs false
namespace Go.Proofs.Ytepoalgoombpeaa.Pure
open Go.RowKit Go.Proofs.Ytepoalgoombpeaa.Print Go.Proofs.YtepoalgoombpeaaW.PrintWords Go.Proofs.YtepoalgoombpeaaW.PrintLast
def flat (l : List S38) : List Int := l.flatMap (fun v => [v.f0, v.f1])
theorem flat_cons (v : S38) (l : List S38) : flat (v :: l) = v.f0 :: v.f1 :: flat l := rfl
def okV (v : S38) : Bool := valueZ v.f0 v.f1
theorem rd_val {l : List S38} {i : Nat} (h : i < l.length) : rd_T38 l (i : Int) = l[i] := by
  unfold rd_T38
  rw [Int.toNat_natCast]
  simp [List.getD, h]
theorem evNow {α : Type} (r : α) : Ev (fun _ => some r) r := ⟨0, fun _ _ => rfl⟩
theorem evRounds {α : Type} {g : Nat → Option α} {r : α} (h : Ev g r) : ∃ k, g k = some r := by
  obtain ⟨K, h⟩ := h
  exact ⟨K, h K (Nat.le_refl _)⟩
theorem evFrom {α : Type} {g : Nat → Option α} {r : α} (K : Nat) (h : ∀ m, g (m + K) = some r) : Ev g r := ⟨K, fun k hk => by
  obtain ⟨m, rfl⟩ : ∃ m, k = m + K := ⟨k - K, by omega⟩
  exact h m⟩
def tailZ (acc : List Int) (l : List S38) : List Int × Int := if l.all okV = true then (acc ++ flat l, 0) else ([], 6)
theorem oCellsL (l : List S38) (hl : l.length ≤ 10000) : ∀ (d i : Nat) (acc : List Int), i + d = l.length → acc.length + 2 * d < 100000 → Ev (fun k => object_Cells.l0 k acc l (l.length : Int) (i : Int)) (tailZ acc (l.drop i)) := by
  intro d
  induction d with
  | zero =>
    intro i acc h0 ha
    refine Ev.step (f := fun _ => some (acc, 0)) (fun k => ?_) ?_
    · simp only [object_Cells.l0]
      rw [if_neg (by omega)]
    · have e : l.drop i = [] := List.drop_eq_nil_of_le (by omega)
      rw [e]
      simp only [tailZ, flat, List.all_nil, List.flatMap_nil, List.append_nil, if_true]
      exact evNow _
  | succ d ih =>
    intro i acc h0 ha
    have hi : i < l.length := by omega
    have hw : wrap64 ((i : Int) + 1) = ((i + 1 : Nat) : Int) := by unfold wrap64; omega
    have e : l.drop i = l[i] :: l.drop (i + 1) := List.drop_eq_getElem_cons hi
    rw [e]
    have hv : Ev (fun k => object_Value.f k l[i].f0 l[i].f1) (okV l[i]) := evFrom 1 (fun m => oValue m _ _)
    refine Ev.step (f := fun k => (object_Value.f k l[i].f0 l[i].f1).bind fun t => if t = true then object_Cells.l0 k (acc ++ [l[i].f0, l[i].f1]) l (l.length : Int) ((i + 1 : Nat) : Int) else some ([], 6)) (fun k => ?_) ?_
    · simp only [object_Cells.l0]
      rw [if_pos (by omega), if_pos (by omega), if_pos (by omega), rd_val hi, hw]
      congr 1
      funext t
      split
      · simp only [Option.bind_some]
        rw [if_pos (by simp; omega)]
      · rfl
    · refine Ev.bind (f := fun k t => if t = true then object_Cells.l0 k (acc ++ [l[i].f0, l[i].f1]) l (l.length : Int) ((i + 1 : Nat) : Int) else some ([], 6)) hv ?_
      cases hok : okV l[i] with
      | true =>
        simp only [if_true]
        have := ih (i + 1) (acc ++ [l[i].f0, l[i].f1]) (by omega) (by simp; omega)
        simp only [tailZ, List.all_cons, hok, Bool.true_and, flat_cons, List.append_assoc, List.cons_append, List.nil_append] at this ⊢
        exact this
      | false =>
        simp only [Bool.false_eq_true, if_false, tailZ, List.all_cons, hok, Bool.false_and]
        exact evNow _
def cellsZ (a0 a1 a2 a3 a4 a5 a6 a7 : Int) (l8 : List Int) (l9 : List S38) : List Int × Int :=
  if rightZ a0 a1 a2 a3 a4 a5 a6 a7 ≠ 0 then ([], rightZ a0 a1 a2 a3 a4 a5 a6 a7)
  else if a6 = (l8.length : Int) ∧ a7 = (l9.length : Int) then tailZ ([a0 + 16 * a1 + 64 * a2 + 512 * a3 + 2048 * a4, a6 + 8192 * a7 + 67108864 * a5] ++ l8) l9 else ([], 1)
theorem oCells (a0 a1 a2 a3 a4 a5 a6 a7 : Int) (l8 : List Int) (l9 : List S38) (h8 : l8.length ≤ 10000) (h9 : l9.length ≤ 10000) : Ev (fun k => object_Cells.f k a0 a1 a2 a3 a4 a5 a6 a7 l8 l9) (cellsZ a0 a1 a2 a3 a4 a5 a6 a7 l8 l9) := by
  unfold cellsZ
  by_cases h : rightZ a0 a1 a2 a3 a4 a5 a6 a7 = 0
  · have hp : packZ a0 a1 a2 a3 a4 a5 a6 a7 = (a0 + 16 * a1 + 64 * a2 + 512 * a3 + 2048 * a4, a6 + 8192 * a7 + 67108864 * a5, 0) := by unfold packZ; rw [if_pos h]
    rw [if_neg (by simp [h])]
    by_cases hc : a6 = (l8.length : Int) ∧ a7 = (l9.length : Int)
    · rw [if_pos hc]
      refine Ev.congr (f := fun k => object_Cells.j0 k (a0 + 16 * a1 + 64 * a2 + 512 * a3 + 2048 * a4) (a6 + 8192 * a7 + 67108864 * a5) false a0 a1 a2 a3 a4 a5 a6 a7 l8 l9) (fun k => ?_) ?_
      · unfold object_Cells.f object_Pack.f
        rw [hp]
        simp only [Option.bind_some, if_true]
        rw [if_pos hc.1, bne_eq_false_iff_eq.2 hc.2]
      · refine Ev.step (f := fun k => object_Cells.l0 k ([a0 + 16 * a1 + 64 * a2 + 512 * a3 + 2048 * a4, a6 + 8192 * a7 + 67108864 * a5] ++ l8) l9 (l9.length : Int) ((0 : Nat) : Int)) (fun k => ?_) ?_
        · simp only [object_Cells.j0, Bool.false_eq_true, if_false, Option.bind_some]
          rw [if_pos (by simp; omega)]
          rfl
        · have := oCellsL l9 h9 l9.length 0 ([a0 + 16 * a1 + 64 * a2 + 512 * a3 + 2048 * a4, a6 + 8192 * a7 + 67108864 * a5] ++ l8) (by omega) (by simp; omega)
          simpa using this
    · rw [if_neg hc]
      refine Ev.congr (f := fun k => object_Cells.j0 k (a0 + 16 * a1 + 64 * a2 + 512 * a3 + 2048 * a4) (a6 + 8192 * a7 + 67108864 * a5) true a0 a1 a2 a3 a4 a5 a6 a7 l8 l9) (fun k => ?_) ?_
      · unfold object_Cells.f object_Pack.f
        rw [hp]
        simp only [Option.bind_some, if_true]
        by_cases c6 : a6 = (l8.length : Int)
        · rw [if_pos c6, bne_iff_ne.2 (fun c7 => hc ⟨c6, c7⟩)]
        · rw [if_neg c6]
      · refine Ev.step (f := fun _ => some ([], 1)) (fun k => ?_) (evNow _)
        simp only [object_Cells.j0, if_true]
  · have hp : packZ a0 a1 a2 a3 a4 a5 a6 a7 = (0, 0, rightZ a0 a1 a2 a3 a4 a5 a6 a7) := by unfold packZ; rw [if_neg h]
    rw [if_pos h]
    refine Ev.congr (f := fun _ => some ([], rightZ a0 a1 a2 a3 a4 a5 a6 a7)) (fun k => ?_) (evNow _)
    unfold object_Cells.f object_Pack.f
    rw [hp]
    simp only [Option.bind_some]
    rw [if_neg h]
theorem sameL (l : List Int) (hl : l.length ≤ 1000000) : ∀ (d i : Nat), i + d = l.length → Ev (fun k => heirloomlaw02_Same.l0 k l l (i : Int)) true := by
  intro d
  induction d with
  | zero =>
    intro i h0
    refine Ev.step (f := fun _ => some true) (fun k => ?_) (evNow _)
    simp only [heirloomlaw02_Same.l0]
    rw [if_neg (by omega)]
  | succ d ih =>
    intro i h0
    have hw : wrap64 ((i : Int) + 1) = ((i + 1 : Nat) : Int) := by unfold wrap64; omega
    refine Ev.step (fun k => ?_) (ih (i + 1) (by omega))
    simp only [heirloomlaw02_Same.l0]
    rw [if_pos (by omega), if_pos (by omega), if_pos (by omega), hw]
    simp
theorem same_self (l : List Int) (hl : l.length ≤ 1000000) : Ev (fun k => heirloomlaw02_Same.f k l l) true := by
  refine Ev.congr (fun k => ?_) (sameL l hl l.length 0 (by omega))
  unfold heirloomlaw02_Same.f
  rw [if_pos rfl]
  rfl
end Go.Proofs.Ytepoalgoombpeaa.Pure
