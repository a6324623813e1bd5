/- TextPacks: the cells are the document's, and their number. -/
import Derived.Test.YtllchgoppogibaaPackLib
set_option linter.unusedVariables false
namespace Go.Proofs.Ytllchgoppogibaa.Pure
open Go.RowKit Go.Proofs.Ytllchgoppogibaa.Print Go.Proofs.YtllchgoppogibaaW.PrintWords Go.Proofs.YtllchgoppogibaaW.PrintLast

theorem packs_j1 (s : ByteArray) (n : Int) : Ev (fun k => heirloomlaw02_TextPacks.j0 k s n true) true := by
  refine Ev.step (f := fun k => (heirloomlaw02_alive.f k).bind fun t => some t) (fun k => ?_) (Ev.bind alive_ev (Ev.now true))
  simp only [heirloomlaw02_TextPacks.j0, if_true]
theorem packs_j0 (s : ByteArray) (n : Int) (hs : s.size ≤ 3000) (h0 : -9223372036854775808 ≤ n) (hn : n ≤ 24000) : Ev (fun k => heirloomlaw02_TextPacks.j0 k s n false) true := by
  refine Ev.step (f := fun k => (heirloomref02_Pack.f k s).bind fun t134 => ((heirloomlaw02_Same.f k (TextMath.packA s) t134).bind fun t137 => (if t137 = true then ((heirloomref02_Cells.f k n).bind fun t139 => (if cellsZ n = t139 then ((heirloomlaw02_alive.f k).bind fun t140 => (some t140)) else (some false))) else (some false)))) (fun k => ?_) ?_
  · simp only [heirloomlaw02_TextPacks.j0, tpack s (by omega), Option.bind_some, tcells n h0 (by omega)]
    rfl
  · refine Ev.bind (g := fun k => heirloomref02_Pack.f k s) (rpack_ev s (by omega) ((s.size + 7) / 8) 0 (by omega)) ?_
    refine Ev.bind (g := fun k => heirloomlaw02_Same.f k (TextMath.packA s) (TextMath.packA s)) (same_ev _ _ (by rw [packA_length]; omega)) ?_
    simp only [decide_true, if_true]
    refine Ev.bind (g := fun k => heirloomref02_Cells.f k n) (cells_ev n (by omega)) ?_
    simp only [if_true]
    exact Ev.bind alive_ev (Ev.now true)
theorem TextPacks : heirloomlaw02_TextPacks.Pure := by
  intro s n hs hn
  have hw : -9223372036854775808 ≤ n := by
    have h := hn
    simp [Lit.wf] at h
    have e : IntKind.i64.min = -9223372036854775808 := by decide
    omega
  apply Ev.rounds
  unfold heirloomlaw02_TextPacks.f
  by_cases hl : (s.size : Int) > 3000
  · simp only [if_pos hl]
    exact packs_j1 s n
  · simp only [if_neg hl]
    by_cases hb : n > 24000
    · simp only [decide_eq_true hb]
      exact packs_j1 s n
    · simp only [decide_eq_false hb]
      exact packs_j0 s n (by omega) hw (by omega)
end Go.Proofs.Ytllchgoppogibaa.Pure
