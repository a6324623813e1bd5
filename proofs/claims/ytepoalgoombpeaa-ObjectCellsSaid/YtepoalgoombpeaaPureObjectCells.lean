/- PROVED: the law's Lean function is true of every object. Conditions: none. -/
import Derived.Test.YtepoalgoombpeaaCellsLib
import Derived.Test.YtepoalgoombpeaaRCellsLib
import Derived.Test.YtepoalgoombpeaaPrintx23
set_option linter.unusedVariables false
set_option linter.unusedSimpArgs false
namespace Go.Proofs.Ytepoalgoombpeaa.Pure
open Go.RowKit Go.Proofs.Ytepoalgoombpeaa.Print Go.Proofs.YtepoalgoombpeaaW.PrintWords Go.Proofs.YtepoalgoombpeaaW.PrintLast
theorem cellsZ_len (a0 a1 a2 a3 a4 a5 a6 a7 : Int) (l8 : List Int) (l9 : List S38) : (cellsZ a0 a1 a2 a3 a4 a5 a6 a7 l8 l9).1.length ≤ 2 + l8.length + 2 * l9.length := by
  have hf : (flat l9).length = 2 * l9.length := by
    induction l9 with
    | nil => rfl
    | cons v l ih => rw [flat_cons]; simp only [List.length_cons, ih]; omega
  unfold cellsZ tailZ
  split
  · simp
  · split
    · split
      · simp [hf]; omega
      · simp
    · simp
theorem ObjectCells (x0_0 x0_1 x0_2 x0_3 x0_4 x0_5 x0_6 x0_7 : Int) (w0 : ∀ a ∈ [x0_0, x0_1, x0_2, x0_3, x0_4, x0_5, x0_6, x0_7], (Lit.int .i64 a).wf = true) (l8 : List Int) (l9 : List S38) (hm8 : l8.length ≤ maxLen) (hw8 : ∀ n ∈ l8, (Lit.int .i64 n).wf = true) (hm9 : l9.length ≤ maxLen) (hw9 : ∀ v ∈ l9, (Lit.int .i64 v.f0).wf = true ∧ (Lit.int .i64 v.f1).wf = true) : ∃ k, heirloomlaw04_ObjectCells.f k x0_0 x0_1 x0_2 x0_3 x0_4 x0_5 x0_6 x0_7 l8 l9 = some true := by
  refine evRounds ?_
  by_cases hs : (l8.length : Int) ≤ 300 ∧ (l9.length : Int) ≤ 300
  · have hc := oCells x0_0 x0_1 x0_2 x0_3 x0_4 x0_5 x0_6 x0_7 l8 l9 (by omega) (by omega)
    have hr := rCells x0_0 x0_1 x0_2 x0_3 x0_4 x0_5 x0_6 x0_7 l8 l9 (by omega) (by omega)
    have hl := cellsZ_len x0_0 x0_1 x0_2 x0_3 x0_4 x0_5 x0_6 x0_7 l8 l9
    have hq := same_self (cellsZ x0_0 x0_1 x0_2 x0_3 x0_4 x0_5 x0_6 x0_7 l8 l9).1 (by omega)
    refine Ev.congr (f := fun k => (object_Cells.f k x0_0 x0_1 x0_2 x0_3 x0_4 x0_5 x0_6 x0_7 l8 l9).bind fun bt => ((heirloomref04_Cells.f k x0_0 x0_1 x0_2 x0_3 x0_4 x0_5 x0_6 x0_7 l8 l9).bind fun bu => ((heirloomlaw02_Same.f k bt.1 bu.1).bind fun t => (if t = true then (if bt.2 = bu.2 then some true else some false) else some false)))) (fun k => ?_) ?_
    · unfold heirloomlaw04_ObjectCells.f heirloomlaw04_small.f
      rw [if_pos hs.1]
      simp only [Option.bind_some, decide_eq_true hs.2, if_true, heirloomlaw04_no.f, heirloomlaw04_alive.f]
    · refine Ev.bind (f := fun k bt => ((heirloomref04_Cells.f k x0_0 x0_1 x0_2 x0_3 x0_4 x0_5 x0_6 x0_7 l8 l9).bind fun bu => ((heirloomlaw02_Same.f k bt.1 bu.1).bind fun t => (if t = true then (if bt.2 = bu.2 then some true else some false) else some false)))) hc ?_
      refine Ev.bind (f := fun k (bu : List Int × Int) => ((heirloomlaw02_Same.f k (cellsZ x0_0 x0_1 x0_2 x0_3 x0_4 x0_5 x0_6 x0_7 l8 l9).1 bu.1).bind fun t => (if t = true then (if (cellsZ x0_0 x0_1 x0_2 x0_3 x0_4 x0_5 x0_6 x0_7 l8 l9).2 = bu.2 then some true else some false) else some false))) hr ?_
      refine Ev.bind (f := fun _ t => (if t = true then (if (cellsZ x0_0 x0_1 x0_2 x0_3 x0_4 x0_5 x0_6 x0_7 l8 l9).2 = (cellsZ x0_0 x0_1 x0_2 x0_3 x0_4 x0_5 x0_6 x0_7 l8 l9).2 then some true else some false) else some false)) hq ?_
      simp only [if_true]
      exact evNow _
  · refine Ev.congr (f := fun _ => some true) (fun k => ?_) (evNow _)
    unfold heirloomlaw04_ObjectCells.f heirloomlaw04_small.f
    by_cases h8 : (l8.length : Int) ≤ 300
    · rw [if_pos h8]
      simp only [Option.bind_some, decide_eq_false (fun h9 => hs ⟨h8, h9⟩), Bool.false_eq_true, if_false, heirloomlaw04_alive.f]
    · rw [if_neg h8]
      simp only [Option.bind_some, Bool.false_eq_true, if_false, heirloomlaw04_alive.f]
end Go.Proofs.Ytepoalgoombpeaa.Pure
