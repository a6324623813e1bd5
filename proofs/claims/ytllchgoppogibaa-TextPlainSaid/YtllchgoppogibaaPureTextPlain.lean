/- TextPlain: a quote's bytes are printable, and a mark or a stroke stands only where it may. -/
import Derived.Test.YtllchgoppogibaaPrintx4
import Derived.Test.YtllchgoppogibaaQuoteLib
set_option linter.unusedVariables false
namespace Go.Proofs.Ytllchgoppogibaa.Pure
open Go.RowKit Go.Proofs.Ytllchgoppogibaa.Print Go.Proofs.YtllchgoppogibaaW.PrintWords Go.Proofs.YtllchgoppogibaaW.PrintLast

/-- Inside a quote: printable, no mark, and behind a stroke an x. -/
def Good (l : List Int) : Prop := ∀ (i : Nat) (c : Int), l[i]? = some c → 32 ≤ c ∧ c ≤ 126 ∧ c ≠ 34 ∧ (c = 92 → l[i + 1]? = some 120)
theorem Good.append {a b : List Int} (ha : Good a) (hb : Good b) : Good (a ++ b) := by
  intro i c hi
  by_cases h : i < a.length
  · rw [List.getElem?_append_left h] at hi
    obtain ⟨h1, h2, h3, h4⟩ := ha i c hi
    refine ⟨h1, h2, h3, fun hc => ?_⟩
    have h5 := h4 hc
    have h6 : i + 1 < a.length := by
      rcases Nat.lt_or_ge (i + 1) a.length with h | h
      · exact h
      · rw [List.getElem?_eq_none h] at h5
        cases h5
    rw [List.getElem?_append_left h6]
    exact h5
  · rw [List.getElem?_append_right (by omega)] at hi
    obtain ⟨h1, h2, h3, h4⟩ := hb _ c hi
    refine ⟨h1, h2, h3, fun hc => ?_⟩
    rw [List.getElem?_append_right (by omega), show i + 1 - a.length = i - a.length + 1 by omega]
    exact h4 hc
theorem hx_good (i : Int) : 32 ≤ hx i ∧ hx i ≤ 126 ∧ hx i ≠ 34 ∧ hx i ≠ 92 ∨ hx i = 0 := by
  unfold hx hexL
  generalize i.toNat = n
  match n with
  | 0 | 1 | 2 | 3 | 4 | 5 | 6 | 7 | 8 | 9 | 10 | 11 | 12 | 13 | 14 | 15 => left; decide
  | n + 16 => right; rfl
theorem hx_good' (i : Int) (h0 : 0 ≤ i) (h1 : i < 16) : 32 ≤ hx i ∧ hx i ≤ 126 ∧ hx i ≠ 34 ∧ hx i ≠ 92 := by
  obtain ⟨n, rfl⟩ := Int.eq_ofNat_of_zero_le h0
  match n, (show n < 16 by omega) with
  | 0, _ | 1, _ | 2, _ | 3, _ | 4, _ | 5, _ | 6, _ | 7, _ | 8, _ | 9, _ | 10, _ | 11, _ | 12, _ | 13, _ | 14, _ | 15, _ => decide
theorem qb_good (b : Int) (h0 : 0 ≤ b) (h1 : b ≤ 255) : Good (qb b) := by
  unfold qb
  by_cases hp : plainB b = true
  · rw [if_pos hp]
    intro i c hi
    match i, hi with
    | 0, hi =>
      simp at hi
      subst hi
      simp [plainB] at hp
      omega
  · rw [if_neg hp]
    have a1 := hx_good' (b / 16) (by omega) (by omega)
    have a2 := hx_good' (b % 16) (by omega) (by omega)
    intro i c hi
    match i, hi with
    | 0, hi => simp at hi; subst hi; simp
    | 1, hi => simp at hi; subst hi; simp
    | 2, hi => simp at hi; subst hi; exact ⟨a1.1, a1.2.1, a1.2.2.1, fun h => absurd h a1.2.2.2⟩
    | 3, hi => simp at hi; subst hi; exact ⟨a2.1, a2.2.1, a2.2.2.1, fun h => absurd h a2.2.2.2⟩
theorem qL_good : ∀ (l : List Int), (∀ x ∈ l, 0 ≤ x ∧ x ≤ 255) → Good (qL l)
  | [], _ => fun i c hi => by simp [qL] at hi
  | x :: l, h => by
    rw [qL_cons]
    exact (qb_good x (h x (by simp)).1 (h x (by simp)).2).append (qL_good l fun y hy => h y (by simp [hy]))

theorem bt_str (l : List Int) (hr : ∀ x ∈ l, 0 ≤ x ∧ x ≤ 255) (i : Nat) (c : Int) (h : l[i]? = some c) : bt (strOfNums l) (i : Nat) = c := by
  rw [TextMath.bt_nat, strOfNums_data, List.getElem?_map, h]
  have hm := hr c (List.mem_of_getElem? h)
  simp
  rw [Int.emod_eq_of_lt (by omega) (by omega)]
  omega
/-- What the loop asks of each byte. -/
def Quoted (l : List Int) : Prop := ∀ (i : Nat) (c : Int), l[i]? = some c → 32 ≤ c ∧ c ≤ 126 ∧ (c = 34 → i = 0 ∨ i + 1 = l.length) ∧ (c = 92 → l[i + 1]? = some 120)
theorem quoted (s : ByteArray) : Quoted (quoteL s) := by
  intro i c hi
  have hg := qL_good (bytesI s) (bytesI_range s)
  unfold quoteL at hi ⊢
  match i, hi with
  | 0, hi => simp at hi; subst hi; simp
  | i + 1, hi =>
    simp only [List.cons_append, List.nil_append, List.getElem?_cons_succ, List.length_cons] at hi ⊢
    by_cases h : i < (qL (bytesI s)).length
    · rw [List.getElem?_append_left h] at hi
      obtain ⟨h1, h2, h3, h4⟩ := hg i c hi
      refine ⟨h1, h2, fun hc => absurd hc h3, fun hc => ?_⟩
      have h5 := h4 hc
      have h6 : i + 1 < (qL (bytesI s)).length := by
        rcases Nat.lt_or_ge (i + 1) (qL (bytesI s)).length with h | h
        · exact h
        · rw [List.getElem?_eq_none h] at h5
          cases h5
      rw [List.getElem?_append_left h6]
      exact h5
    · rw [List.getElem?_append_right (by omega)] at hi
      have hlt : i - (qL (bytesI s)).length < 1 := by
        rcases Nat.lt_or_ge (i - (qL (bytesI s)).length) 1 with h | h
        · exact h
        · rw [List.getElem?_eq_none (by simpa using h)] at hi
          cases hi
      have e0 : i - (qL (bytesI s)).length = 0 := by omega
      rw [e0] at hi
      simp at hi
      subst hi
      refine ⟨by omega, by omega, fun _ => .inr ?_, fun h => absurd h (by omega)⟩
      simp
      omega
theorem quote_range (s : ByteArray) : ∀ x ∈ quoteL s, 0 ≤ x ∧ x ≤ 255 := by
  intro x hx
  obtain ⟨i, hi⟩ := List.getElem?_of_mem hx
  have := quoted s i x hi
  omega
theorem plain_l0 (l : List Int) (hq : Quoted l) (hr : ∀ x ∈ l, 0 ≤ x ∧ x ≤ 255) (hn : l.length < 4611686018427387904) : ∀ (d i : Nat), i + d = l.length → Ev (fun k => heirloomlaw02_TextPlain.l0 k (strOfNums l) (i : Int)) true := by
  intro d
  have hsz : (strOfNums l).size = l.length := strOfNums_size l
  induction d with
  | zero =>
    intro i hi
    refine Ev.step (f := fun k => (heirloomlaw02_alive.f k).bind fun t => some t) (fun k => ?_) (Ev.bind alive_ev (Ev.now true))
    simp only [heirloomlaw02_TextPlain.l0, hsz]
    rw [if_neg (by omega)]
  | succ d ih =>
    intro i hi
    have hlt : i < l.length := by omega
    obtain ⟨h1, h2, h3, h4⟩ := hq i l[i] (List.getElem?_eq_getElem hlt)
    have hb := bt_str l hr i l[i] (List.getElem?_eq_getElem hlt)
    have e1 : wrap64 ((i : Int) + 1) = ((i + 1 : Nat) : Int) := by unfold wrap64; omega
    have e2 : wrap64 ((l.length : Int) - 1) = (l.length : Int) - 1 := by unfold wrap64; omega
    refine Ev.step (fun k => ?_) (ih (i + 1) (by omega))
    simp only [heirloomlaw02_TextPlain.l0, hsz, hb, e1, e2]
    rw [if_pos (by omega), if_pos (by omega), if_neg (by omega), if_neg (by omega)]
    have last : (if l[i] = 92 then (if 0 ≤ ((i + 1 : Nat) : Int) then (if ((i + 1 : Nat) : Int) < (l.length : Int) then (if (bt (strOfNums l) ((i + 1 : Nat) : Int)) = 120 then (heirloomlaw02_TextPlain.l0 k (strOfNums l) ((i + 1 : Nat) : Int)) else (some false)) else (none)) else (none)) else (heirloomlaw02_TextPlain.l0 k (strOfNums l) ((i + 1 : Nat) : Int))) = heirloomlaw02_TextPlain.l0 k (strOfNums l) ((i + 1 : Nat) : Int) := by
      by_cases h92 : l[i] = 92
      · have h5 := h4 h92
        have h6 : i + 1 < l.length := by
          rcases Nat.lt_or_ge (i + 1) l.length with h | h
          · exact h
          · rw [List.getElem?_eq_none h] at h5
            cases h5
        rw [if_pos h92, if_pos (by omega), if_pos (by omega), bt_str l hr (i + 1) 120 h5, if_pos rfl]
      · rw [if_neg h92]
    by_cases h34 : l[i] = 34
    · rw [if_pos h34]
      by_cases hi0 : i = 0
      · rw [if_neg (by omega)]
        exact last
      · have := h3 h34
        rw [if_pos (by omega), if_neg (by omega)]
        exact last
    · rw [if_neg h34]
      exact last
theorem plain_j0 (l : List Int) (hq : Quoted l) (hr : ∀ x ∈ l, 0 ≤ x ∧ x ≤ 255) (hn : l.length < 4611686018427387904) : Ev (fun k => heirloomlaw02_TextPlain.j0 k (strOfNums l) false) true := by
  refine Ev.step (fun k => ?_) (plain_l0 l hq hr hn l.length 0 (by omega))
  simp only [heirloomlaw02_TextPlain.j0]
  rfl
theorem TextPlain : heirloomlaw02_TextPlain.Pure := by
  intro s hs
  apply Ev.rounds
  unfold heirloomlaw02_TextPlain.f
  by_cases hl : (s.size : Int) > 3000
  · simp only [if_pos hl]
    exact Ev.bind alive_ev (Ev.now true)
  · simp only [if_neg hl]
    refine Ev.bind (g := fun k => text_Quote.f k s) (tquote_ev s (by omega)) ?_
    have hq := qL_len (bytesI s)
    rw [bytesI_length] at hq
    have hlen : (quoteL s).length = (qL (bytesI s)).length + 2 := by simp [quoteL]
    have e1 : wrap64 ((s.size : Int) + 2) = (s.size : Int) + 2 := by unfold wrap64; omega
    have e2 : wrap64 (4 * (s.size : Int)) = 4 * (s.size : Int) := by unfold wrap64; omega
    have e3 : wrap64 (4 * (s.size : Int) + 2) = 4 * (s.size : Int) + 2 := by unfold wrap64; omega
    have e4 : wrap64 (((quoteL s).length : Int) - 1) = (((quoteL s).length - 1 : Nat) : Int) := by unfold wrap64; omega
    have b0 : bt (strOfNums (quoteL s)) 0 = 34 := bt_str _ (quote_range s) 0 34 (by simp [quoteL])
    have b1 : bt (strOfNums (quoteL s)) (((quoteL s).length - 1 : Nat) : Int) = 34 := bt_str _ (quote_range s) _ 34 (by
      rw [hlen]
      unfold quoteL
      rw [List.getElem?_append_right (by simp)]
      simp)
    simp only [strOfNums_size, e1, e2, e3, e4, b0, b1]
    have c1 : ¬ (((quoteL s).length : Nat) : Int) < (s.size : Int) + 2 := by omega
    have c2 : ¬ (((quoteL s).length : Nat) : Int) > 4 * (s.size : Int) + 2 := by omega
    have c3 : (0 : Int) < (((quoteL s).length : Nat) : Int) := by omega
    have c4 : (0 : Int) ≤ (((quoteL s).length - 1 : Nat) : Int) := by omega
    have c5 : (((quoteL s).length - 1 : Nat) : Int) < (((quoteL s).length : Nat) : Int) := by omega
    simp only [if_neg c1, if_neg c2, if_pos c3, if_true, if_pos c4, if_pos c5]
    exact plain_j0 _ (quoted s) (quote_range s) (by omega)
end Go.Proofs.Ytllchgoppogibaa.Pure
