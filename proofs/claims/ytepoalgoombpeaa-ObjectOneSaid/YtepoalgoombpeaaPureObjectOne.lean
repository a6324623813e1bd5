/- PROVED: the law's Lean function is true of every cells. Conditions: none. -/
import Derived.Test.YtepoalgoombpeaaInvLib
import Derived.Test.YtepoalgoombpeaaPrintx31
set_option linter.unusedVariables false
set_option linter.unusedSimpArgs false
namespace Go.Proofs.Ytepoalgoombpeaa.Pure
open Go.RowKit Go.Proofs.Ytepoalgoombpeaa.Print Go.Proofs.YtepoalgoombpeaaW.PrintWords Go.Proofs.YtepoalgoombpeaaW.PrintLast
theorem readZ_lens (l : List Int) : (readZ l).2.2.2.2.2.2.2.2.1.length ≤ l.length ∧ (readZ l).2.2.2.2.2.2.2.2.2.1.length ≤ l.length := by
  unfold readZ
  split
  · simp [noObj]
  · split
    · unfold readTail
      split
      · have := pairs_len (l.drop (2 + (headZ l).2.2.2.2.2.2.1.toNat))
        simp only [List.length_take, List.length_drop, List.nil_append] at this ⊢
        omega
      · simp [noObj]
    · simp [noObj]
theorem ObjectOne : heirloomlaw04_ObjectOne.Pure := by
  intro l _ _ hw
  refine evRounds ?_
  by_cases hl : (l.length : Int) > 1000
  · refine Ev.congr (f := fun _ => some true) (fun k => ?_) (evNow _)
    unfold heirloomlaw04_ObjectOne.f
    rw [if_pos hl]
    rfl
  · have ho := oRead l (by omega) hw
    have hn := readZ_lens l
    refine Ev.congr (f := fun k => (object_Read.f k l).bind fun b => (if b.2.2.2.2.2.2.2.2.2.2 = 0 then ((object_Cells.f k b.1 b.2.1 b.2.2.1 b.2.2.2.1 b.2.2.2.2.1 b.2.2.2.2.2.1 b.2.2.2.2.2.2.1 b.2.2.2.2.2.2.2.1 b.2.2.2.2.2.2.2.2.1 b.2.2.2.2.2.2.2.2.2.1).bind fun c => (if c.2 = 0 then ((heirloomlaw02_Same.f k l c.1).bind fun t => (if t = true then some true else some false)) else some false)) else (if b.2.2.2.2.2.2.2.2.2.2 = 6 then ((heirloomref04_Same.f k b.1 b.2.1 b.2.2.1 b.2.2.2.1 b.2.2.2.2.1 b.2.2.2.2.2.1 b.2.2.2.2.2.2.1 b.2.2.2.2.2.2.2.1 b.2.2.2.2.2.2.2.2.1 b.2.2.2.2.2.2.2.2.2.1 0 0 0 0 0 0 0 0 [] []).bind fun t => (if t = true then some true else some false)) else some false))) (fun k => ?_) ?_
    · unfold heirloomlaw04_ObjectOne.f
      rw [if_neg hl]
      rfl
    · refine Ev.bind (f := fun k b => (if b.2.2.2.2.2.2.2.2.2.2 = 0 then ((object_Cells.f k b.1 b.2.1 b.2.2.1 b.2.2.2.1 b.2.2.2.2.1 b.2.2.2.2.2.1 b.2.2.2.2.2.2.1 b.2.2.2.2.2.2.2.1 b.2.2.2.2.2.2.2.2.1 b.2.2.2.2.2.2.2.2.2.1).bind fun c => (if c.2 = 0 then ((heirloomlaw02_Same.f k l c.1).bind fun t => (if t = true then some true else some false)) else some false)) else (if b.2.2.2.2.2.2.2.2.2.2 = 6 then ((heirloomref04_Same.f k b.1 b.2.1 b.2.2.1 b.2.2.2.1 b.2.2.2.2.1 b.2.2.2.2.2.1 b.2.2.2.2.2.2.1 b.2.2.2.2.2.2.2.1 b.2.2.2.2.2.2.2.2.1 b.2.2.2.2.2.2.2.2.2.1 0 0 0 0 0 0 0 0 [] []).bind fun t => (if t = true then some true else some false)) else some false))) ho ?_
      by_cases he : (readZ l).2.2.2.2.2.2.2.2.2.2 = 0
      · simp only [if_pos he]
        have hc := oCells (readZ l).1 (readZ l).2.1 (readZ l).2.2.1 (readZ l).2.2.2.1 (readZ l).2.2.2.2.1 (readZ l).2.2.2.2.2.1 (readZ l).2.2.2.2.2.2.1 (readZ l).2.2.2.2.2.2.2.1 (readZ l).2.2.2.2.2.2.2.2.1 (readZ l).2.2.2.2.2.2.2.2.2.1 (by omega) (by omega)
        rw [laid_read he] at hc
        refine Ev.bind (f := fun k (c : List Int × Int) => (if c.2 = 0 then ((heirloomlaw02_Same.f k l c.1).bind fun t => (if t = true then some true else some false)) else some false)) hc ?_
        simp only [if_true]
        refine Ev.bind (f := fun _ t => (if t = true then some true else some false)) (same_self l (by omega)) ?_
        simp only [if_true]
        exact evNow _
      · have e := read_no he
        rw [e]
        simp only [noObj]
        have hs := same_obj 0 0 0 0 0 0 0 0 [] [] (by simp) (by simp)
        refine Ev.congr (f := fun k => (heirloomref04_Same.f k 0 0 0 0 0 0 0 0 [] [] 0 0 0 0 0 0 0 0 [] []).bind fun t => (if t = true then some true else some false)) (fun k => rfl) ?_
        refine Ev.bind (f := fun _ t => (if t = true then some true else some false)) hs ?_
        simp only [if_true]
        exact evNow _
end Go.Proofs.Ytepoalgoombpeaa.Pure
