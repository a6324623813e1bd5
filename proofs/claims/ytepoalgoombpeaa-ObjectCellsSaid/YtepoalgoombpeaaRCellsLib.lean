/- PROVED: what the document's laying of an object into cells computes, in closed form. Conditions: those each theorem states. -/
import Derived.Test.YtepoalgoombpeaaCellsLib
import Derived.Test.YtepoalgoombpeaaPrintx22
set_option linter.unusedVariables false
set_option linter.unusedSimpArgs false
namespace Go.Proofs.Ytepoalgoombpeaa.Pure
open Go.RowKit Go.Proofs.Ytepoalgoombpeaa.Print Go.Proofs.YtepoalgoombpeaaW.PrintWords Go.Proofs.YtepoalgoombpeaaW.PrintLast
theorem rCellsL (a0 a1 a2 a3 a4 a5 a6 a7 : Int) (l8 : List Int) (l : List S38) (hl : l.length ≤ 10000) : ∀ (d i : Nat) (acc : List Int), i + d = l.length → acc.length + 2 * d < 100000 → Ev (fun k => heirloomref04_Cells.l0 k acc (i : Int) a0 a1 a2 a3 a4 a5 a6 a7 l8 l) (tailZ acc (l.drop i)) := by
  intro d
  induction d with
  | zero =>
    intro i acc h0 ha
    refine Ev.step (f := fun _ => some (acc, 0)) (fun k => ?_) ?_
    · simp only [heirloomref04_Cells.l0]
      rw [if_neg (by omega)]
    · have e : l.drop i = [] := List.drop_eq_nil_of_le (by omega)
      rw [e]
      simp only [tailZ, flat, List.all_nil, List.flatMap_nil, List.append_nil, if_true]
      exact evNow _
  | succ d ih =>
    intro i acc h0 ha
    have hi : i < l.length := by omega
    have hw : wrap64 ((i : Int) + 1) = ((i + 1 : Nat) : Int) := by unfold wrap64; omega
    have e : l.drop i = l[i] :: l.drop (i + 1) := List.drop_eq_getElem_cons hi
    rw [e]
    have hv : Ev (fun k => heirloomref04_Value.f k l[i].f0 l[i].f1) (okV l[i]) := evFrom 1 (fun m => rValue m _ _)
    refine Ev.step (f := fun k => (heirloomref04_Value.f k l[i].f0 l[i].f1).bind fun t => if t = true then heirloomref04_Cells.l0 k (acc ++ [l[i].f0, l[i].f1]) ((i + 1 : Nat) : Int) a0 a1 a2 a3 a4 a5 a6 a7 l8 l else some ([], 6)) (fun k => ?_) ?_
    · simp only [heirloomref04_Cells.l0]
      rw [if_pos (by omega), if_pos (by omega), rd_val hi, hw]
      congr 1
      funext t
      split
      · simp only [Option.bind_some]
        rw [if_pos (by simp; omega)]
      · rfl
    · refine Ev.bind (f := fun k t => if t = true then heirloomref04_Cells.l0 k (acc ++ [l[i].f0, l[i].f1]) ((i + 1 : Nat) : Int) a0 a1 a2 a3 a4 a5 a6 a7 l8 l else some ([], 6)) hv ?_
      cases hok : okV l[i] with
      | true =>
        simp only [if_true]
        have := ih (i + 1) (acc ++ [l[i].f0, l[i].f1]) (by omega) (by simp; omega)
        simp only [tailZ, List.all_cons, hok, Bool.true_and, flat_cons, List.append_assoc, List.cons_append, List.nil_append] at this ⊢
        exact this
      | false =>
        simp only [Bool.false_eq_true, if_false, tailZ, List.all_cons, hok, Bool.false_and]
        exact evNow _
theorem rCells (a0 a1 a2 a3 a4 a5 a6 a7 : Int) (l8 : List Int) (l9 : List S38) (h8 : l8.length ≤ 10000) (h9 : l9.length ≤ 10000) : Ev (fun k => heirloomref04_Cells.f k a0 a1 a2 a3 a4 a5 a6 a7 l8 l9) (cellsZ a0 a1 a2 a3 a4 a5 a6 a7 l8 l9) := by
  unfold cellsZ
  have hR : Ev (fun k => heirloomref04_Right.f k a0 a1 a2 a3 a4 a5 a6 a7) (rightZ a0 a1 a2 a3 a4 a5 a6 a7) := evFrom 1 (fun m => rRight m _ _ _ _ _ _ _ _)
  unfold heirloomref04_Cells.f
  refine Ev.bind (f := fun k t => (if t = 0 then (if a6 = (l8.length : Int) then (heirloomref04_Cells.j0 k (a7 != (l9.length : Int)) a0 a1 a2 a3 a4 a5 a6 a7 l8 l9) else (heirloomref04_Cells.j0 k true a0 a1 a2 a3 a4 a5 a6 a7 l8 l9)) else (some (([] : List Int), t)))) hR ?_
  by_cases h : rightZ a0 a1 a2 a3 a4 a5 a6 a7 = 0
  · rw [if_neg (by simp [h])]
    simp only [h, if_true]
    by_cases hc : a6 = (l8.length : Int) ∧ a7 = (l9.length : Int)
    · rw [if_pos hc]
      refine Ev.congr (f := fun k => heirloomref04_Cells.j0 k false a0 a1 a2 a3 a4 a5 a6 a7 l8 l9) (fun k => ?_) ?_
      · rw [if_pos hc.1, bne_eq_false_iff_eq.2 hc.2]
      · refine Ev.step (f := fun k => heirloomref04_Cells.l0 k ([a0 + 16 * a1 + 64 * a2 + 512 * a3 + 2048 * a4, a6 + 8192 * a7 + 67108864 * a5] ++ l8) ((0 : Nat) : Int) a0 a1 a2 a3 a4 a5 a6 a7 l8 l9) (fun k => ?_) ?_
        · simp only [heirloomref04_Cells.j0, Bool.false_eq_true, if_false]
          rw [first_eq h, second_eq h]
          simp only [Option.bind_some]
          rw [if_pos (by simp), if_pos (by simp; omega)]
          rfl
        · have := rCellsL a0 a1 a2 a3 a4 a5 a6 a7 l8 l9 h9 l9.length 0 ([a0 + 16 * a1 + 64 * a2 + 512 * a3 + 2048 * a4, a6 + 8192 * a7 + 67108864 * a5] ++ l8) (by omega) (by simp; omega)
          simpa using this
    · rw [if_neg hc]
      refine Ev.congr (f := fun k => heirloomref04_Cells.j0 k true a0 a1 a2 a3 a4 a5 a6 a7 l8 l9) (fun k => ?_) ?_
      · by_cases c6 : a6 = (l8.length : Int)
        · rw [if_pos c6, bne_iff_ne.2 (fun c7 => hc ⟨c6, c7⟩)]
        · rw [if_neg c6]
      · refine Ev.step (f := fun _ => some ([], 1)) (fun k => ?_) (evNow _)
        simp only [heirloomref04_Cells.j0, if_true]
  · rw [if_pos h]
    simp only [if_neg h]
    exact evNow _
end Go.Proofs.Ytepoalgoombpeaa.Pure
