/- A quote's bytes: the document's loop answers them. -/
import Derived.Test.YtllchgoppogibaaPrintx3
import Derived.Test.YtllchgoppogibaaQuoteLib
set_option linter.unusedVariables false
namespace Go.Proofs.Ytllchgoppogibaa.Pure
open Go.RowKit Go.Proofs.Ytllchgoppogibaa.Print Go.Proofs.YtllchgoppogibaaW.PrintWords Go.Proofs.YtllchgoppogibaaW.PrintLast

theorem rplain (b : Int) : heirloomref02_Plain.f b = some (plainB b) := tplain b
theorem str_append (a b : List Int) : strOfNums (a ++ b) = strOfNums a ++ strOfNums b := by
  apply ByteArray.ext
  simp [strOfNums]
theorem hexext (i : Int) (h0 : 0 ≤ i) (h1 : i < 16) : heirloomref02_one.hex.extract i.toNat (i + 1).toNat = strOfNums [hx i] := by
  obtain ⟨n, rfl⟩ := Int.eq_ofNat_of_zero_le h0
  match n, (show n < 16 by omega) with
  | 0, _ => rfl
  | 1, _ => rfl
  | 2, _ => rfl
  | 3, _ => rfl
  | 4, _ => rfl
  | 5, _ => rfl
  | 6, _ => rfl
  | 7, _ => rfl
  | 8, _ => rfl
  | 9, _ => rfl
  | 10, _ => rfl
  | 11, _ => rfl
  | 12, _ => rfl
  | 13, _ => rfl
  | 14, _ => rfl
  | 15, _ => rfl
theorem one_eq (b : Int) (h0 : 0 ≤ b) (h1 : b ≤ 255) : heirloomref02_one.f b = some (strOfNums (qb b)) := by
  unfold heirloomref02_one.f qb
  rw [if_pos ⟨h0, h1⟩, rplain, Option.bind_some]
  by_cases hp : plainB b = true
  · rw [if_pos hp, if_pos hp]
  · rw [if_neg hp, if_neg hp, hexext _ (by omega) (by omega), hexext _ (by omega) (by omega)]
    congr 1
theorem rquote_ev0 (s : ByteArray) (hs : s.size ≤ 140737488351) : ∀ (d i : Nat) (acc : List Int), i + d = s.size → acc.length + 4 * d < 140737488355328 →
    Ev (fun k => heirloomref02_Quote.l0 k s (strOfNums acc) (i : Int)) (strOfNums (acc ++ qL ((bytesI s).drop i) ++ [34])) := by
  intro d
  induction d with
  | zero =>
    intro i acc hi ha
    have e : (bytesI s).drop i = [] := List.drop_of_length_le (by rw [bytesI_length]; omega)
    rw [e]
    refine Ev.step (f := fun _ => some _) (fun k => ?_) (Ev.now _)
    simp only [heirloomref02_Quote.l0]
    rw [if_neg (by omega), if_pos (by rw [strOfNums_size]; omega), str_append]
    simp [qL]
    rfl
  | succ d ih =>
    intro i acc hi ha
    have hb := bt_range s (i : Nat)
    rw [bytesI_drop s i (by omega), qL_cons]
    have hr : acc ++ (qb (bt s (i : Nat)) ++ qL ((bytesI s).drop (i + 1))) ++ [34] = (acc ++ qb (bt s (i : Nat))) ++ qL ((bytesI s).drop (i + 1)) ++ [34] := by simp
    rw [hr]
    have hl := qb_len (bt s (i : Nat))
    refine Ev.step (fun k => ?_) (ih (i + 1) (acc ++ qb (bt s (i : Nat))) (by omega) (by rw [List.length_append]; omega))
    simp only [heirloomref02_Quote.l0]
    rw [if_pos (by omega), if_pos (by omega), one_eq _ hb.1 hb.2, Option.bind_some, wrap_succQ i (by omega), if_pos (by rw [strOfNums_size, strOfNums_size]; omega), str_append]
theorem rquote_ev (s : ByteArray) (hs : s.size ≤ 140737488351) : Ev (fun k => heirloomref02_Quote.f k s) (strOfNums (quoteL s)) :=
  rquote_ev0 s hs s.size 0 [34] (by omega) (by simp; omega)
end Go.Proofs.Ytllchgoppogibaa.Pure
