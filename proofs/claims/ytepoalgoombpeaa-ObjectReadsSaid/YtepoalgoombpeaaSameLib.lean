/- PROVED: an object is told to be the same as itself. Conditions: those each theorem states. -/
import Derived.Test.YtepoalgoombpeaaCellsLib
import Derived.Test.YtepoalgoombpeaaPrintx12
set_option linter.unusedVariables false
set_option linter.unusedSimpArgs false
namespace Go.Proofs.Ytepoalgoombpeaa.Pure
open Go.RowKit Go.Proofs.Ytepoalgoombpeaa.Print Go.Proofs.YtepoalgoombpeaaW.PrintWords Go.Proofs.YtepoalgoombpeaaW.PrintLast
theorem sameL1 (a0 a1 a2 a3 a4 a5 a6 a7 : Int) (l8 : List Int) (l9 : List S38) (h9 : l9.length ≤ 100000) : ∀ (d i : Nat), i + d = l9.length → Ev (fun k => heirloomref04_Same.l1 k (i : Int) a0 a1 a2 a3 a4 a5 a6 a7 l8 l9 a0 a1 a2 a3 a4 a5 a6 a7 l8 l9) true := by
  intro d
  induction d with
  | zero =>
    intro i e0
    refine Ev.step (f := fun _ => some true) (fun k => ?_) (evNow _)
    simp only [heirloomref04_Same.l1]
    rw [if_neg (by omega)]
  | succ d ih =>
    intro i e0
    have hw : wrap64 ((i : Int) + 1) = ((i + 1 : Nat) : Int) := by unfold wrap64; omega
    refine Ev.step (fun k => ?_) (ih (i + 1) (by omega))
    simp only [heirloomref04_Same.l1]
    rw [if_pos (by omega), if_pos (by omega), if_pos (by omega), hw]
    simp
theorem sameL0 (a0 a1 a2 a3 a4 a5 a6 a7 : Int) (l8 : List Int) (l9 : List S38) (h8 : l8.length ≤ 100000) (h9 : l9.length ≤ 100000) : ∀ (d i : Nat), i + d = l8.length → Ev (fun k => heirloomref04_Same.l0 k (i : Int) a0 a1 a2 a3 a4 a5 a6 a7 l8 l9 a0 a1 a2 a3 a4 a5 a6 a7 l8 l9) true := by
  intro d
  induction d with
  | zero =>
    intro i e0
    refine Ev.step (fun k => ?_) (sameL1 a0 a1 a2 a3 a4 a5 a6 a7 l8 l9 h9 l9.length 0 (by omega))
    simp only [heirloomref04_Same.l0]
    rw [if_neg (by omega)]
    rfl
  | succ d ih =>
    intro i e0
    have hw : wrap64 ((i : Int) + 1) = ((i + 1 : Nat) : Int) := by unfold wrap64; omega
    refine Ev.step (fun k => ?_) (ih (i + 1) (by omega))
    simp only [heirloomref04_Same.l0]
    rw [if_pos (by omega), if_pos (by omega), if_pos (by omega), hw]
    simp
theorem same_obj (a0 a1 a2 a3 a4 a5 a6 a7 : Int) (l8 : List Int) (l9 : List S38) (h8 : l8.length ≤ 100000) (h9 : l9.length ≤ 100000) : Ev (fun k => heirloomref04_Same.f k a0 a1 a2 a3 a4 a5 a6 a7 l8 l9 a0 a1 a2 a3 a4 a5 a6 a7 l8 l9) true := by
  refine Ev.congr (f := fun k => heirloomref04_Same.j0 k false a0 a1 a2 a3 a4 a5 a6 a7 l8 l9 a0 a1 a2 a3 a4 a5 a6 a7 l8 l9) (fun k => ?_) ?_
  · unfold heirloomref04_Same.f
    simp
  · refine Ev.step (fun k => ?_) (sameL0 a0 a1 a2 a3 a4 a5 a6 a7 l8 l9 h8 h9 l8.length 0 (by omega))
    simp only [heirloomref04_Same.j0, Bool.false_eq_true, if_false]
    rfl
end Go.Proofs.Ytepoalgoombpeaa.Pure
