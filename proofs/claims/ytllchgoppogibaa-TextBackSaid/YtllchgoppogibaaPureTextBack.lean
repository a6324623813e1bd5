/- TextBack: a text comes back out of its cells and out of its quote. -/
import Derived.Test.YtllchgoppogibaaPrintx8
import Derived.Test.YtllchgoppogibaaUnqQuote
set_option linter.unusedVariables false
namespace Go.Proofs.Ytllchgoppogibaa.Pure
open Go.RowKit Go.Proofs.Ytllchgoppogibaa.Print Go.Proofs.YtllchgoppogibaaW.PrintWords Go.Proofs.YtllchgoppogibaaW.PrintLast

theorem TextBack : heirloomlaw02_TextBack.Pure := by
  intro s hs
  apply Ev.rounds
  unfold heirloomlaw02_TextBack.f
  by_cases hl : (s.size : Int) > 3000
  · simp only [if_pos hl]
    exact Ev.bind alive_ev (Ev.now true)
  · have hp : (TextMath.packA s).length * 8 ≤ 140737488351232 := by rw [packA_length]; omega
    have ec : (((TextMath.packA s).length : Nat) : Int) = cellsZ (s.size : Int) := by rw [packA_length]; unfold cellsZ; split <;> omega
    simp only [if_neg hl, tpack s hs, Option.bind_some, tunpack _ (s.size : Int) hp (by omega) (by omega), unp_pack, tcells (s.size : Int) (by omega) (by omega), ec, if_true, heirloomlaw02_no.f]
    refine Ev.bind (g := fun k => text_Quote.f k s) (tquote_ev s (by omega)) ?_
    have hq := qL_len (bytesI s)
    rw [bytesI_length] at hq
    have hlen : (quoteL s).length = (qL (bytesI s)).length + 2 := by simp [quoteL]
    refine Ev.bind (g := fun k => text_Unquote.f k (strOfNums (quoteL s))) (tunquote_ev _ (by rw [strOfNums_size]; omega)) ?_
    simp only [unq_quote, if_true]
    exact Ev.bind alive_ev (Ev.now true)
end Go.Proofs.Ytllchgoppogibaa.Pure
