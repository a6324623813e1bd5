/- PROVED: the law's Lean function is true of every cells. Conditions: none. -/
import Derived.Test.YtepoalgoombpeaaRReadLib
import Derived.Test.YtepoalgoombpeaaSameLib
import Derived.Test.YtepoalgoombpeaaPrintx26
set_option linter.unusedVariables false
set_option linter.unusedSimpArgs false
namespace Go.Proofs.Ytepoalgoombpeaa.Pure
open Go.RowKit Go.Proofs.Ytepoalgoombpeaa.Print Go.Proofs.YtepoalgoombpeaaW.PrintWords Go.Proofs.YtepoalgoombpeaaW.PrintLast
theorem pairsOf_len : ∀ l : List Int, (pairsOf l).length ≤ l.length
  | [] => by simp [pairsOf]
  | [_] => by simp [pairsOf]
  | t :: n :: r => by
    have := pairsOf_len r
    simp only [pairsOf, List.length_cons]
    omega
theorem readZ_len (l : List Int) : (readZ l).2.2.2.2.2.2.2.2.1.length ≤ l.length ∧ (readZ l).2.2.2.2.2.2.2.2.2.1.length ≤ l.length := by
  unfold readZ
  split
  · simp [noObj]
  · split
    · unfold readTail
      split
      · have := pairsOf_len (l.drop (2 + (headZ l).2.2.2.2.2.2.1.toNat))
        simp only [List.length_take, List.length_drop, List.nil_append] at this ⊢
        omega
      · simp [noObj]
    · simp [noObj]
theorem ObjectReads : heirloomlaw04_ObjectReads.Pure := by
  intro l _ _ hw
  refine evRounds ?_
  by_cases hl : (l.length : Int) > 1000
  · refine Ev.congr (f := fun _ => some true) (fun k => ?_) (evNow _)
    unfold heirloomlaw04_ObjectReads.f
    rw [if_pos hl]
    rfl
  · have ho := oRead l (by omega) hw
    have hr := rRead l (by omega) hw
    have hn := readZ_len l
    obtain ⟨u, hu⟩ : ∃ u, u = readZ l := ⟨_, rfl⟩
    rw [← hu] at ho hr hn
    have hs := same_obj u.1 u.2.1 u.2.2.1 u.2.2.2.1 u.2.2.2.2.1 u.2.2.2.2.2.1 u.2.2.2.2.2.2.1 u.2.2.2.2.2.2.2.1 u.2.2.2.2.2.2.2.2.1 u.2.2.2.2.2.2.2.2.2.1 (by omega) (by omega)
    refine Ev.congr (f := fun k => (object_Read.f k l).bind fun b => ((heirloomref04_Read.f k l).bind fun c => ((heirloomref04_Same.f k b.1 b.2.1 b.2.2.1 b.2.2.2.1 b.2.2.2.2.1 b.2.2.2.2.2.1 b.2.2.2.2.2.2.1 b.2.2.2.2.2.2.2.1 b.2.2.2.2.2.2.2.2.1 b.2.2.2.2.2.2.2.2.2.1 c.1 c.2.1 c.2.2.1 c.2.2.2.1 c.2.2.2.2.1 c.2.2.2.2.2.1 c.2.2.2.2.2.2.1 c.2.2.2.2.2.2.2.1 c.2.2.2.2.2.2.2.2.1 c.2.2.2.2.2.2.2.2.2.1).bind fun t => (if t = true then (if b.2.2.2.2.2.2.2.2.2.2 = c.2.2.2.2.2.2.2.2.2.2 then some true else some false) else some false)))) (fun k => ?_) ?_
    · unfold heirloomlaw04_ObjectReads.f
      rw [if_neg hl]
      rfl
    · refine Ev.bind (f := fun k b => ((heirloomref04_Read.f k l).bind fun c => ((heirloomref04_Same.f k b.1 b.2.1 b.2.2.1 b.2.2.2.1 b.2.2.2.2.1 b.2.2.2.2.2.1 b.2.2.2.2.2.2.1 b.2.2.2.2.2.2.2.1 b.2.2.2.2.2.2.2.2.1 b.2.2.2.2.2.2.2.2.2.1 c.1 c.2.1 c.2.2.1 c.2.2.2.1 c.2.2.2.2.1 c.2.2.2.2.2.1 c.2.2.2.2.2.2.1 c.2.2.2.2.2.2.2.1 c.2.2.2.2.2.2.2.2.1 c.2.2.2.2.2.2.2.2.2.1).bind fun t => (if t = true then (if b.2.2.2.2.2.2.2.2.2.2 = c.2.2.2.2.2.2.2.2.2.2 then some true else some false) else some false)))) ho ?_
      refine Ev.bind (f := fun k (c : Obj8) => ((heirloomref04_Same.f k u.1 u.2.1 u.2.2.1 u.2.2.2.1 u.2.2.2.2.1 u.2.2.2.2.2.1 u.2.2.2.2.2.2.1 u.2.2.2.2.2.2.2.1 u.2.2.2.2.2.2.2.2.1 u.2.2.2.2.2.2.2.2.2.1 c.1 c.2.1 c.2.2.1 c.2.2.2.1 c.2.2.2.2.1 c.2.2.2.2.2.1 c.2.2.2.2.2.2.1 c.2.2.2.2.2.2.2.1 c.2.2.2.2.2.2.2.2.1 c.2.2.2.2.2.2.2.2.2.1).bind fun t => (if t = true then (if u.2.2.2.2.2.2.2.2.2.2 = c.2.2.2.2.2.2.2.2.2.2 then some true else some false) else some false))) hr ?_
      refine Ev.bind (f := fun _ t => (if t = true then (if u.2.2.2.2.2.2.2.2.2.2 = u.2.2.2.2.2.2.2.2.2.2 then some true else some false) else some false)) hs ?_
      simp only [if_true]
      exact evNow _
end Go.Proofs.Ytepoalgoombpeaa.Pure
