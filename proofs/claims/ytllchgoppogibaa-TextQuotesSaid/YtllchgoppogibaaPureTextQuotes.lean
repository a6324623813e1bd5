/- TextQuotes: the quote is the document's. -/
import Derived.Test.YtllchgoppogibaaRQuoteLib
set_option linter.unusedVariables false
namespace Go.Proofs.Ytllchgoppogibaa.Pure
open Go.RowKit Go.Proofs.Ytllchgoppogibaa.Print Go.Proofs.YtllchgoppogibaaW.PrintWords Go.Proofs.YtllchgoppogibaaW.PrintLast

theorem TextQuotes : heirloomlaw02_TextQuotes.Pure := by
  intro s hs
  apply Ev.rounds
  unfold heirloomlaw02_TextQuotes.f
  by_cases hl : (s.size : Int) > 3000
  · simp only [if_pos hl]
    exact Ev.now true
  · simp only [if_neg hl]
    refine Ev.bind (g := fun k => text_Quote.f k s) (tquote_ev s (by omega)) ?_
    refine Ev.bind (g := fun k => heirloomref02_Quote.f k s) (rquote_ev s (by omega)) ?_
    simp only [if_true]
    exact Ev.bind alive_ev (Ev.now true)
end Go.Proofs.Ytllchgoppogibaa.Pure
