/- A quote's bytes: the program's loop answers them. -/
import Derived.Test.YtllchgoppogibaaPrintx1
import Derived.Test.YtllchgoppogibaaAlive
set_option linter.unusedVariables false
namespace Go.Proofs.Ytllchgoppogibaa.Pure
open Go.RowKit Go.Proofs.Ytllchgoppogibaa.Print Go.Proofs.YtllchgoppogibaaW.PrintWords Go.Proofs.YtllchgoppogibaaW.PrintLast

def plainB (b : Int) : Bool := decide (32 ≤ b) && decide (b ≤ 126) && (b != 34) && (b != 92)
theorem tplain (b : Int) : text_plain.f b = some (plainB b) := by
  unfold text_plain.f plainB
  by_cases h1 : b ≥ 32
  · rw [if_pos h1]
    by_cases h2 : b ≤ 126
    · rw [if_pos h2]
      by_cases h3 : b = 34
      · subst h3
        rfl
      · rw [if_neg h3]
        have h3' : (b != 34) = true := by simp [h3]
        rw [h3']
        simp [h1, h2]
    · rw [if_neg h2]
      simp [h2]
  · rw [if_neg h1]
    simp [h1]
def hexL : List Int := [48, 49, 50, 51, 52, 53, 54, 55, 56, 57, 97, 98, 99, 100, 101, 102]
def hx (i : Int) : Int := hexL.getD i.toNat 0
/-- A byte as it stands in a quote. -/
def qb (b : Int) : List Int := if plainB b = true then [b] else [92, 120, hx (b / 16), hx (b % 16)]
def bytesI (s : ByteArray) : List Int := s.data.toList.map fun b => (b.toNat : Int)
theorem bytesI_length (s : ByteArray) : (bytesI s).length = s.size := by simp [bytesI]
theorem bytesI_get (s : ByteArray) (i : Nat) (h : i < (bytesI s).length) : (bytesI s)[i] = bt s (i : Nat) := by
  rw [TextMath.bt_nat]
  have h' : i < s.data.toList.length := by simpa [bytesI] using h
  simp [bytesI, List.getElem?_eq_getElem h']
theorem bytesI_drop (s : ByteArray) (i : Nat) (h : i < s.size) : (bytesI s).drop i = bt s (i : Nat) :: (bytesI s).drop (i + 1) := by
  have h' : i < (bytesI s).length := by rw [bytesI_length]; exact h
  rw [List.drop_eq_getElem_cons h', bytesI_get]
theorem bytesI_range (s : ByteArray) : ∀ x ∈ bytesI s, 0 ≤ x ∧ x ≤ 255 := by
  intro x hx
  simp only [bytesI, List.mem_map] at hx
  obtain ⟨b, _, rfl⟩ := hx
  have := b.toNat_lt
  omega
def qL (l : List Int) : List Int := l.flatMap qb
def quoteL (s : ByteArray) : List Int := [34] ++ qL (bytesI s) ++ [34]
theorem qL_cons (x : Int) (l : List Int) : qL (x :: l) = qb x ++ qL l := rfl
theorem qb_len (b : Int) : 1 ≤ (qb b).length ∧ (qb b).length ≤ 4 := by unfold qb; split <;> simp
theorem qL_len (l : List Int) : l.length ≤ (qL l).length ∧ (qL l).length ≤ 4 * l.length := by
  induction l with
  | nil => exact ⟨Nat.le_refl _, Nat.le_refl _⟩
  | cons x l ih =>
    have := qb_len x
    rw [qL_cons, List.length_append, List.length_cons]
    omega
theorem hexbt (i : Int) (h0 : 0 ≤ i) (h1 : i < 16) : bt (⟨#[48, 49, 50, 51, 52, 53, 54, 55, 56, 57, 97, 98, 99, 100, 101, 102]⟩ : ByteArray) i = hx i := by
  obtain ⟨n, rfl⟩ := Int.eq_ofNat_of_zero_le h0
  match n, (show n < 16 by omega) with
  | 0, _ => rfl
  | 1, _ => rfl
  | 2, _ => rfl
  | 3, _ => rfl
  | 4, _ => rfl
  | 5, _ => rfl
  | 6, _ => rfl
  | 7, _ => rfl
  | 8, _ => rfl
  | 9, _ => rfl
  | 10, _ => rfl
  | 11, _ => rfl
  | 12, _ => rfl
  | 13, _ => rfl
  | 14, _ => rfl
  | 15, _ => rfl
theorem and15 (b : Int) (h0 : 0 ≤ b) (h1 : b ≤ 255) : Go.bits .and .u8 b 15 = b % 16 := by
  obtain ⟨n, rfl⟩ := Int.eq_ofNat_of_zero_le h0
  have h := u8_and_nat n 15 (by omega) (by omega)
  rw [nat_mask4] at h
  exact h
theorem wrap_succQ (i : Nat) (h : i < 9223372036854775807) : wrap64 ((i : Int) + 1) = ((i + 1 : Nat) : Int) := by unfold wrap64; omega
theorem quote_ev0 (s : ByteArray) (hs : s.size ≤ 140737488351) : ∀ (d i : Nat) (acc : List Int), i + d = s.size → acc.length + 4 * d < 140737488355328 →
    Ev (fun k => text_Quote.l0 k s acc (s.size : Int) (i : Int)) (strOfNums (acc ++ qL ((bytesI s).drop i) ++ [34])) := by
  intro d
  induction d with
  | zero =>
    intro i acc hi ha
    have e : (bytesI s).drop i = [] := List.drop_of_length_le (by rw [bytesI_length]; omega)
    rw [e]
    refine Ev.step (f := fun _ => some _) (fun k => ?_) (Ev.now _)
    simp only [text_Quote.l0]
    rw [if_neg (by omega), if_pos (by omega)]
    simp [qL]
  | succ d ih =>
    intro i acc hi ha
    have hb := bt_range s (i : Nat)
    rw [bytesI_drop s i (by omega), qL_cons]
    have hr : acc ++ (qb (bt s (i : Nat)) ++ qL ((bytesI s).drop (i + 1))) ++ [34] = (acc ++ qb (bt s (i : Nat))) ++ qL ((bytesI s).drop (i + 1)) ++ [34] := by simp
    rw [hr]
    have hl := qb_len (bt s (i : Nat))
    refine Ev.step (fun k => ?_) (ih (i + 1) (acc ++ qb (bt s (i : Nat))) (by omega) (by rw [List.length_append]; omega))
    simp only [text_Quote.l0]
    rw [if_pos (by omega), if_pos (by omega), if_pos (by omega), tplain, Option.bind_some, wrap_succQ i (by omega), and15 _ hb.1 hb.2]
    generalize bt s (i : Nat) = b at hb hl ⊢
    by_cases hp : plainB b = true
    · have e : qb b = [b] := by unfold qb; rw [if_pos hp]
      rw [if_pos hp, if_pos (by omega), e]
    · have e : qb b = [92, 120, hx (b / 16), hx (b % 16)] := by unfold qb; rw [if_neg hp]
      rw [if_neg hp, if_pos (by omega), if_pos (by omega), if_pos (by omega), if_pos (by omega), hexbt _ (by omega) (by omega), hexbt _ (by omega) (by omega), Option.bind_some, if_pos (by simp; omega), e]
theorem tquote_ev (s : ByteArray) (hs : s.size ≤ 140737488351) : Ev (fun k => text_Quote.f k s) (strOfNums (quoteL s)) :=
  quote_ev0 s hs s.size 0 [34] (by omega) (by simp; omega)
end Go.Proofs.Ytllchgoppogibaa.Pure
