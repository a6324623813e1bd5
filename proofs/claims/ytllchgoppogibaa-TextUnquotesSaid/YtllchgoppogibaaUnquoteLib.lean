/- Reading a quote: one byte at a time, by a plain decoder. -/
import Derived.Test.YtllchgoppogibaaUnpackLib
import Derived.Test.YtllchgoppogibaaPrintx7
set_option linter.unusedVariables false
namespace Go.Proofs.Ytllchgoppogibaa.Pure
open Go.RowKit Go.Proofs.Ytllchgoppogibaa.Print Go.Proofs.YtllchgoppogibaaW.PrintWords Go.Proofs.YtllchgoppogibaaW.PrintLast

def digF : Nat → Nat → Int → Int
  | 0, _, _ => -1
  | d + 1, i, c => if hx (i : Nat) = c then (i : Int) else digF d (i + 1) c
def dig (c : Int) : Int := digF 16 0 c
theorem digit_ev0 (c : Int) : ∀ (d i : Nat), i + d = 16 → Ev (fun k => text_digit.l0 k c (i : Int)) (digF d i c) := by
  intro d
  induction d with
  | zero =>
    intro i hi
    refine Ev.step (f := fun _ => some _) (fun k => ?_) (Ev.now _)
    simp only [text_digit.l0]
    rw [if_neg (by omega)]
    rfl
  | succ d ih =>
    intro i hi
    by_cases h : hx (i : Nat) = c
    · have e : digF (d + 1) i c = (i : Int) := by unfold digF; rw [if_pos h]
      rw [e]
      refine Ev.step (f := fun _ => some _) (fun k => ?_) (Ev.now _)
      simp only [text_digit.l0]
      rw [if_pos (by omega), if_pos (by omega), hexbt _ (by omega) (by omega), if_pos h]
    · have e : digF (d + 1) i c = digF d (i + 1) c := by rw [digF, if_neg h]
      rw [e]
      refine Ev.step (fun k => ?_) (ih (i + 1) (by omega))
      simp only [text_digit.l0]
      rw [if_pos (by omega), if_pos (by omega), hexbt _ (by omega) (by omega), if_neg h, wrap_succ i (by omega)]
theorem digit_ev (c : Int) : Ev (fun k => text_digit.f k c) (dig c) := digit_ev0 c 16 0 (by omega)
theorem digF_spec (c : Int) : ∀ (d i : Nat), i + d = 16 → digF d i c = -1 ∨ (0 ≤ digF d i c ∧ digF d i c < 16 ∧ hx (digF d i c) = c) := by
  intro d
  induction d with
  | zero => intro i _; exact .inl rfl
  | succ d ih =>
    intro i hi
    rw [digF]
    by_cases h : hx (i : Nat) = c
    · rw [if_pos h]
      exact .inr ⟨by omega, by omega, h⟩
    · rw [if_neg h]
      exact ih (i + 1) (by omega)
theorem dig_spec (c : Int) : dig c = -1 ∨ (0 ≤ dig c ∧ dig c < 16 ∧ hx (dig c) = c) := digF_spec c 16 0 (by omega)
theorem dig_hx (i : Int) (h0 : 0 ≤ i) (h1 : i < 16) : dig (hx i) = i := by
  obtain ⟨n, rfl⟩ := Int.eq_ofNat_of_zero_le h0
  match n, (show n < 16 by omega) with
  | 0, _ | 1, _ | 2, _ | 3, _ | 4, _ | 5, _ | 6, _ | 7, _ | 8, _ | 9, _ | 10, _ | 11, _ | 12, _ | 13, _ | 14, _ | 15, _ => decide
/-- The first byte of a quote's inside, and how many bytes it takes. -/
def dec (T : List Int) : Option (Int × Nat) :=
  if plainB (T.getD 0 0) = true then some (T.getD 0 0, 1)
  else if T.length < 4 ∨ T.getD 0 0 ≠ 92 ∨ T.getD 1 0 ≠ 120 then none
  else if dig (T.getD 2 0) < 0 ∨ dig (T.getD 3 0) < 0 then none
  else if plainB (16 * dig (T.getD 2 0) + dig (T.getD 3 0)) = true then none
  else some (16 * dig (T.getD 2 0) + dig (T.getD 3 0), 4)
def unqL : Nat → List Int → Option (List Int)
  | _, [] => some []
  | 0, _ :: _ => none
  | n + 1, c :: T => match dec (c :: T) with
    | none => none
    | some (b, m) => (unqL n ((c :: T).drop m)).map fun L => b :: L
theorem dec_qb (b : Int) (R : List Int) (h0 : 0 ≤ b) (h1 : b ≤ 255) : dec (qb b ++ R) = some (b, (qb b).length) := by
  unfold dec qb
  by_cases hp : plainB b = true
  · rw [if_pos hp]
    simp [hp]
  · rw [if_neg hp]
    have a1 : dig (hx (b / 16)) = b / 16 := dig_hx _ (by omega) (by omega)
    have a2 : dig (hx (b % 16)) = b % 16 := dig_hx _ (by omega) (by omega)
    have e : 16 * (b / 16) + b % 16 = b := by omega
    have p92 : ¬ plainB 92 = true := by decide
    simp only [List.cons_append, List.nil_append, List.getD_cons_zero, List.getD_cons_succ, List.length_cons]
    rw [if_neg p92, if_neg (by simp), a1, a2, if_neg (by omega), e, if_neg hp]
    rfl
theorem unqL_qL : ∀ (n : Nat) (l : List Int), (∀ x ∈ l, 0 ≤ x ∧ x ≤ 255) → (qL l).length ≤ n → unqL n (qL l) = some l := by
  intro n
  induction n with
  | zero =>
    intro l _ hn
    cases l with
    | nil => rfl
    | cons x l =>
      have := qb_len x
      rw [qL_cons, List.length_append] at hn
      omega
  | succ n ih =>
    intro l hr hn
    cases l with
    | nil => rfl
    | cons x l =>
      have hx := hr x (by simp)
      have hlen := qb_len x
      rw [qL_cons, List.length_append] at hn
      rw [qL_cons]
      have hd := dec_qb x (qL l) hx.1 hx.2
      cases hq : qb x with
      | nil => rw [hq] at hlen; simp at hlen
      | cons c r =>
        rw [hq] at hd
        simp only [List.cons_append] at hd ⊢
        rw [unqL, hd]
        simp only
        have e : (c :: (r ++ qL l)).drop (c :: r).length = qL l := by
          rw [← List.cons_append, List.drop_left]
        rw [e, ih l (fun y hy => hr y (by simp [hy])) (by omega)]
        rfl
theorem bt_getD (s : ByteArray) (i : Nat) : bt s (i : Int) = (bytesI s).getD i 0 := by
  rw [TextMath.bt_nat]
  simp only [bytesI, List.getD_eq_getElem?_getD, List.getElem?_map]
  cases s.data.toList[i]? <;> rfl
theorem bytesI_ext (s : ByteArray) (p : Nat) : bytesI (s.extract p s.size) = (bytesI s).drop p := by
  unfold bytesI
  rw [TextMath.extract_list, List.map_drop]
theorem or64_nat (a b : Nat) (ha : a < 9223372036854775808) (hb : b < 9223372036854775808) : bits .or .i64 (a : Int) (b : Int) = ((a ||| b : Nat) : Int) := by
  have hx : a ||| b < 2 ^ 63 := Nat.or_lt_two_pow (by omega) (by omega)
  have e : ∀ n : Nat, n < 9223372036854775808 → (BitVec.ofInt 64 (n : Int)).toNat = n := fun n hn => by
    rw [BitVec.ofInt_natCast, BitVec.toNat_ofNat]
    exact Nat.mod_eq_of_lt (by omega)
  show IntKind.i64.wrap ((BitVec.ofInt 64 (a : Int) ||| BitVec.ofInt 64 (b : Int)).toNat : Int) = _
  rw [BitVec.toNat_or, e a ha, e b hb, IntKind.wrap_i64]
  omega
theorem or_digits (h l : Int) (h0 : 0 ≤ h) (h1 : h < 16) (l0 : 0 ≤ l) (l1 : l < 16) : Go.bits .or .i64 (wrap64 (h * 16)) l % 256 = 16 * h + l := by
  obtain ⟨h, rfl⟩ := Int.eq_ofNat_of_zero_le h0
  obtain ⟨l, rfl⟩ := Int.eq_ofNat_of_zero_le l0
  have e : wrap64 ((h : Int) * 16) = ((h * 16 : Nat) : Int) := by unfold wrap64; omega
  rw [e, or64_nat _ _ (by omega) (by omega), nat_join 4 _ _ (Nat.mul_mod_left _ _) (by omega)]
  omega
def unqAns (acc : List Int) : Option (List Int) → ByteArray × Int
  | none => (⟨#[]⟩, 6)
  | some L => (strOfNums (acc ++ L), 0)
theorem unq_ev : ∀ (n : Nat) (x : ByteArray) (acc : List Int), x.size ≤ n → acc.length + x.size < 140737488355328 → Ev (fun k => text_Unquote.l0 k acc x) (unqAns acc (unqL n (bytesI x))) := by
  intro n
  induction n with
  | zero =>
    intro x acc hn ha
    have e : bytesI x = [] := List.eq_nil_of_length_eq_zero (by rw [bytesI_length]; omega)
    rw [e]
    refine Ev.step (f := fun _ => some _) (fun k => ?_) (Ev.now _)
    simp only [text_Unquote.l0]
    rw [if_neg (by omega)]
    simp [unqL, unqAns]
  | succ n ih =>
    intro x acc hn ha
    by_cases hz : x.size = 0
    · have e : bytesI x = [] := List.eq_nil_of_length_eq_zero (by rw [bytesI_length]; omega)
      rw [e]
      refine Ev.step (f := fun _ => some _) (fun k => ?_) (Ev.now _)
      simp only [text_Unquote.l0]
      rw [if_neg (by omega)]
      simp [unqL, unqAns]
    · have hlen := bytesI_length x
      have b0 : bt x 0 = (bytesI x).getD 0 0 := bt_getD x 0
      have b1 : bt x 1 = (bytesI x).getD 1 0 := bt_getD x 1
      have b2 : bt x 2 = (bytesI x).getD 2 0 := bt_getD x 2
      have b3 : bt x 3 = (bytesI x).getD 3 0 := bt_getD x 3
      have hu : unqL (n + 1) (bytesI x) = match dec (bytesI x) with
          | none => none
          | some (b, m) => (unqL n ((bytesI x).drop m)).map fun L => b :: L := by
        cases hT : bytesI x with
        | nil => rw [hT] at hlen; simp at hlen; omega
        | cons c T => rfl
      rw [hu]
      have bad : Ev (fun k => text_Unquote.j2 k acc x true) (unqAns acc none) := by
        refine Ev.step (f := fun _ => some _) (fun k => ?_) (Ev.now _)
        simp only [text_Unquote.j2, if_true]
        rfl
      by_cases hp : plainB ((bytesI x).getD 0 0) = true
      · have hd : dec (bytesI x) = some ((bytesI x).getD 0 0, 1) := by unfold dec; rw [if_pos hp]
        rw [hd]
        simp only
        have h := ih (x.extract 1 x.size) (acc ++ [(bytesI x).getD 0 0]) (by rw [ByteArray.size_extract]; omega) (by rw [ByteArray.size_extract, List.length_append]; simp; omega)
        rw [bytesI_ext] at h
        have e : unqAns acc ((unqL n ((bytesI x).drop 1)).map fun L => (bytesI x).getD 0 0 :: L) = unqAns (acc ++ [(bytesI x).getD 0 0]) (unqL n ((bytesI x).drop 1)) := by
          cases unqL n ((bytesI x).drop 1) with
          | none => rfl
          | some L => simp [unqAns]
        rw [e]
        refine Ev.step (fun k => ?_) h
        simp only [text_Unquote.l0]
        rw [if_pos (by omega), if_pos (by omega), b0, tplain, Option.bind_some, if_pos hp, if_pos (by omega), if_pos (by omega)]
      · refine Ev.step (f := fun k => if (x.size : Int) < 4 then (text_Unquote.j2 k acc x true) else (if (bytesI x).getD 0 0 = 92 then (text_Unquote.j2 k acc x ((bytesI x).getD 1 0 != 120)) else (text_Unquote.j2 k acc x true))) (fun k => ?_) ?_
        · simp only [text_Unquote.l0]
          rw [if_pos (by omega), if_pos (by omega), b0, tplain, Option.bind_some, if_neg hp]
          by_cases h4 : (x.size : Int) < 4
          · rw [if_pos h4, if_pos h4]
          · rw [if_neg h4, if_neg h4, if_pos (show (1 : Int) < x.size by omega), b1]
        · by_cases h4 : (x.size : Int) < 4
          · have hd : dec (bytesI x) = none := by unfold dec; rw [if_neg hp, if_pos (.inl (by omega))]
            simp only [if_pos h4, hd]
            exact bad
          · simp only [if_neg h4]
            by_cases h92 : (bytesI x).getD 0 0 = 92
            · simp only [if_pos h92]
              by_cases h120 : (bytesI x).getD 1 0 = 120
              · have hb : ((bytesI x).getD 1 0 != 120) = false := by rw [h120]; rfl
                rw [hb]
                refine Ev.step (f := fun k => (text_digit.f k ((bytesI x).getD 2 0)).bind fun t194 => ((text_digit.f k ((bytesI x).getD 3 0)).bind fun t195 => (if t194 < 0 then (some ((⟨#[]⟩ : ByteArray), 6)) else (if t195 < 0 then (some ((⟨#[]⟩ : ByteArray), 6)) else ((text_plain.f ((Go.bits .or .i64 (wrap64 (t194 * 16)) t195) % 256)).bind fun t196 => (if t196 = true then (some ((⟨#[]⟩ : ByteArray), 6)) else (text_Unquote.l0 k (acc ++ [(Go.bits .or .i64 (wrap64 (t194 * 16)) t195) % 256]) (x.extract 4 x.size)))))))) (fun k => ?_) ?_
                · simp only [text_Unquote.j2]
                  rw [if_neg (by decide), if_pos (by omega), b2, b3]
                  have c3 : (3 : Int) < (x.size : Int) := by omega
                  have c4 : (4 : Int) ≤ (x.size : Int) := by omega
                  have c5 : acc.length < 140737488355328 := by omega
                  simp only [if_pos c3, if_pos c4, if_pos c5]
                · refine Ev.bind (g := fun k => text_digit.f k ((bytesI x).getD 2 0)) (digit_ev _) ?_
                  refine Ev.bind (g := fun k => text_digit.f k ((bytesI x).getD 3 0)) (digit_ev _) ?_
                  by_cases hd2 : dig ((bytesI x).getD 2 0) < 0
                  · have hd : dec (bytesI x) = none := by unfold dec; rw [if_neg hp, if_neg (by omega), if_pos (.inl hd2)]
                    simp only [if_pos hd2, hd]
                    exact Ev.now _
                  · simp only [if_neg hd2]
                    by_cases hd3 : dig ((bytesI x).getD 3 0) < 0
                    · have hd : dec (bytesI x) = none := by unfold dec; rw [if_neg hp, if_neg (by omega), if_pos (.inr hd3)]
                      simp only [if_pos hd3, hd]
                      exact Ev.now _
                    · have s2 := dig_spec ((bytesI x).getD 2 0)
                      have s3 := dig_spec ((bytesI x).getD 3 0)
                      have eo := or_digits (dig ((bytesI x).getD 2 0)) (dig ((bytesI x).getD 3 0)) (by omega) (by omega) (by omega) (by omega)
                      simp only [if_neg hd3, eo, tplain, Option.bind_some]
                      by_cases hpp : plainB (16 * dig ((bytesI x).getD 2 0) + dig ((bytesI x).getD 3 0)) = true
                      · have hd : dec (bytesI x) = none := by unfold dec; rw [if_neg hp, if_neg (by omega), if_neg (by omega), if_pos hpp]
                        simp only [if_pos hpp, hd]
                        exact Ev.now _
                      · have hd : dec (bytesI x) = some (16 * dig ((bytesI x).getD 2 0) + dig ((bytesI x).getD 3 0), 4) := by unfold dec; rw [if_neg hp, if_neg (by omega), if_neg (by omega), if_neg hpp]
                        simp only [if_neg hpp, hd]
                        have h := ih (x.extract 4 x.size) (acc ++ [16 * dig ((bytesI x).getD 2 0) + dig ((bytesI x).getD 3 0)]) (by rw [ByteArray.size_extract]; omega) (by rw [ByteArray.size_extract, List.length_append]; simp; omega)
                        rw [bytesI_ext] at h
                        generalize 16 * dig ((bytesI x).getD 2 0) + dig ((bytesI x).getD 3 0) = b at h ⊢
                        have e : unqAns acc ((unqL n ((bytesI x).drop 4)).map fun L => b :: L) = unqAns (acc ++ [b]) (unqL n ((bytesI x).drop 4)) := by
                          cases unqL n ((bytesI x).drop 4) with
                          | none => rfl
                          | some L => simp [unqAns]
                        rw [e]
                        exact h
              · have hb : ((bytesI x).getD 1 0 != 120) = true := bne_iff_ne.2 h120
                have hd : dec (bytesI x) = none := by unfold dec; rw [if_neg hp, if_pos (.inr (.inr h120))]
                rw [hb, hd]
                exact bad
            · have hd : dec (bytesI x) = none := by unfold dec; rw [if_neg hp, if_pos (.inr (.inl h92))]
              simp only [if_neg h92, hd]
              exact bad
/-- The whole reading. -/
def unq (s : ByteArray) : ByteArray × Int :=
  if s.size < 2 then (⟨#[]⟩, 6) else if bt s 0 = 34 ∧ bt s ((s.size - 1 : Nat) : Int) = 34 then unqAns [] (unqL s.size (((bytesI s).take (s.size - 1)).drop 1)) else (⟨#[]⟩, 6)
theorem bytesI_mid (s : ByteArray) (p q : Nat) : bytesI (s.extract p q) = ((bytesI s).take q).drop p := by
  unfold bytesI
  rw [ByteArray.data_extract, Array.toList_extract, List.extract_eq_take_drop, ← List.drop_take, List.map_drop, List.map_take]
theorem tunquote_ev (s : ByteArray) (hs : s.size ≤ 140737488351) : Ev (fun k => text_Unquote.f k s) (unq s) := by
  have bad : Ev (fun k => text_Unquote.j0 k s true) (⟨#[]⟩, 6) := by
    refine Ev.step (f := fun _ => some _) (fun k => ?_) (Ev.now _)
    simp only [text_Unquote.j0, if_true]
  unfold text_Unquote.f unq
  by_cases h2 : s.size < 2
  · have h2' : (s.size : Int) < 2 := by omega
    simp only [if_pos h2', if_pos h2]
    exact bad
  · have h2' : ¬ (s.size : Int) < 2 := by omega
    have c0 : (0 : Int) < (s.size : Int) := by omega
    have e : wrap64 ((s.size : Int) - 1) = ((s.size - 1 : Nat) : Int) := by unfold wrap64; omega
    have c1 : (0 : Int) ≤ ((s.size - 1 : Nat) : Int) := by omega
    have c2 : ((s.size - 1 : Nat) : Int) < (s.size : Int) := by omega
    simp only [if_neg h2', if_neg h2, if_pos c0, e, if_pos c1, if_pos c2]
    by_cases h3 : bt s 0 = 34
    · simp only [if_pos h3]
      by_cases h4 : bt s ((s.size - 1 : Nat) : Int) = 34
      · have hb : (bt s ((s.size - 1 : Nat) : Int) != 34) = false := by simp [h4]
        rw [if_pos ⟨h3, h4⟩]
        simp only [hb]
        have h := unq_ev s.size (s.extract 1 (s.size - 1)) [] (by rw [ByteArray.size_extract]; omega) (by rw [ByteArray.size_extract]; simp; omega)
        rw [bytesI_mid] at h
        refine Ev.step (fun k => ?_) h
        simp only [text_Unquote.j0]
        rw [if_neg (by decide), e, if_pos (by omega), if_pos (by omega), Int.toNat_natCast]
      · have hb : (bt s ((s.size - 1 : Nat) : Int) != 34) = true := by simp [h4]
        rw [if_neg (fun h => h4 h.2)]
        simp only [hb]
        exact bad
    · simp only [if_neg h3]
      rw [if_neg (fun h => h3 h.1)]
      exact bad
end Go.Proofs.Ytllchgoppogibaa.Pure
