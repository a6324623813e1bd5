/- TextApart: unlike texts have unlike quotes, and, of one length, unlike cells. -/
import Derived.Test.YtllchgoppogibaaPrintx3
import Derived.Test.YtllchgoppogibaaUnqQuote
set_option linter.unusedVariables false
namespace Go.Proofs.Ytllchgoppogibaa.Pure
open Go.RowKit Go.Proofs.Ytllchgoppogibaa.Print Go.Proofs.YtllchgoppogibaaW.PrintWords Go.Proofs.YtllchgoppogibaaW.PrintLast

theorem toList_inj {a b : ByteArray} (h : a.toList = b.toList) : a = b := by
  rw [ByteArray.toList_eq, ByteArray.toList_eq] at h
  apply ByteArray.ext
  exact Array.toList_inj.1 h
theorem quote_apart (a b : ByteArray) : ((strOfNums (quoteL a)).toList == (strOfNums (quoteL b)).toList) = (a.toList == b.toList) := by
  rw [Bool.eq_iff_iff, beq_iff_eq, beq_iff_eq]
  constructor
  · intro h
    have h1 := unq_quote a
    rw [toList_inj h, unq_quote b] at h1
    injection h1 with h1 _
    rw [h1]
  · intro h
    rw [toList_inj h]
theorem pack_apart (a b : ByteArray) (hl : a.size = b.size) : decide (TextMath.packA a = TextMath.packA b) = (a.toList == b.toList) := by
  rw [Bool.eq_iff_iff, beq_iff_eq, decide_eq_true_iff]
  constructor
  · intro h
    have h1 := unp_pack a
    rw [h, hl, unp_pack b] at h1
    injection h1 with h1 _
    rw [h1]
  · intro h
    rw [toList_inj h]
theorem apart_j1 (a b : ByteArray) : Ev (fun k => heirloomlaw02_TextApart.j0 k a b true) true := by
  refine Ev.step (f := fun k => (heirloomlaw02_alive.f k).bind fun t => some t) (fun k => ?_) (Ev.bind alive_ev (Ev.now true))
  simp only [heirloomlaw02_TextApart.j0, if_true]
theorem apart_j0 (a b : ByteArray) (ha : a.size ≤ 3000) (hb : b.size ≤ 3000) : Ev (fun k => heirloomlaw02_TextApart.j0 k a b false) true := by
  refine Ev.step (f := fun k => (text_Quote.f k a).bind fun t146 => ((text_Quote.f k b).bind fun t147 => (if ((t146.toList == t147.toList) == (a.toList == b.toList)) = true then (if (a.size : Int) = (b.size : Int) then ((heirloomlaw02_Same.f k (TextMath.packA a) (TextMath.packA b)).bind fun t154 => (if (t154 == (a.toList == b.toList)) = true then ((heirloomlaw02_alive.f k).bind fun t155 => (some t155)) else (some false))) else ((heirloomlaw02_alive.f k).bind fun t156 => (some t156))) else (some false)))) (fun k => ?_) ?_
  · simp only [heirloomlaw02_TextApart.j0, tpack a (by omega), tpack b (by omega), Option.bind_some]
    rfl
  · refine Ev.bind (g := fun k => text_Quote.f k a) (tquote_ev a (by omega)) ?_
    refine Ev.bind (g := fun k => text_Quote.f k b) (tquote_ev b (by omega)) ?_
    simp only [quote_apart, beq_self_eq_true, if_true]
    by_cases hl : (a.size : Int) = (b.size : Int)
    · simp only [if_pos hl]
      refine Ev.bind (g := fun k => heirloomlaw02_Same.f k (TextMath.packA a) (TextMath.packA b)) (same_ev _ _ (by rw [packA_length]; omega)) ?_
      simp only [pack_apart a b (by omega), beq_self_eq_true, if_true]
      exact Ev.bind alive_ev (Ev.now true)
    · simp only [if_neg hl]
      exact Ev.bind alive_ev (Ev.now true)
theorem TextApart : heirloomlaw02_TextApart.Pure := by
  intro a b ha hb
  apply Ev.rounds
  unfold heirloomlaw02_TextApart.f
  by_cases h1 : (a.size : Int) > 3000
  · simp only [if_pos h1]
    exact apart_j1 a b
  · simp only [if_neg h1]
    by_cases h2 : (b.size : Int) > 3000
    · simp only [decide_eq_true h2]
      exact apart_j1 a b
    · simp only [decide_eq_false h2]
      exact apart_j0 a b (by omega) (by omega)
end Go.Proofs.Ytllchgoppogibaa.Pure
