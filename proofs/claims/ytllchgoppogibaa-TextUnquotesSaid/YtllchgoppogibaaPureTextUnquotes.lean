/- TextUnquotes: any text is read as the document's search reads it. -/
import Derived.Test.YtllchgoppogibaaPrintx8
import Derived.Test.YtllchgoppogibaaUnqQuote
import Derived.Test.YtllchgoppogibaaRQuoteLib
set_option linter.unusedVariables false
namespace Go.Proofs.Ytllchgoppogibaa.Pure
open Go.RowKit Go.Proofs.Ytllchgoppogibaa.Print Go.Proofs.YtllchgoppogibaaW.PrintWords Go.Proofs.YtllchgoppogibaaW.PrintLast

theorem list_pre1 (T : List Int) (h : 1 ≤ T.length) : T = T.getD 0 0 :: T.drop 1 := by
  cases T with
  | nil => simp at h
  | cons c r => rfl
theorem list_pre4 (T : List Int) (h : 4 ≤ T.length) : T = [T.getD 0 0, T.getD 1 0, T.getD 2 0, T.getD 3 0] ++ T.drop 4 := by
  match T, h with
  | a :: b :: c :: d :: r, _ => rfl
/-- What the decoder tells is the one byte whose quote begins the text. -/
theorem dec_some (T : List Int) (hr : ∀ x ∈ T, 0 ≤ x ∧ x ≤ 255) (hT : 1 ≤ T.length) (b : Int) (m : Nat) (h : dec T = some (b, m)) : 0 ≤ b ∧ b ≤ 255 ∧ m = (qb b).length ∧ T.take m = qb b := by
  unfold dec at h
  by_cases hp : plainB (T.getD 0 0) = true
  · rw [if_pos hp] at h
    injection h with h
    injection h with h1 h2
    subst h1 h2
    have e := list_pre1 T hT
    have hm : T.getD 0 0 ∈ T := by
      rw [List.getD_eq_getElem?_getD, List.getElem?_eq_getElem (show 0 < T.length by omega)]
      exact List.getElem_mem _
    have hb := hr _ hm
    have hq : qb (T.getD 0 0) = [T.getD 0 0] := by unfold qb; rw [if_pos hp]
    refine ⟨hb.1, hb.2, by rw [hq]; rfl, ?_⟩
    rw [hq]
    conv => lhs; rw [e]
    rfl
  · rw [if_neg hp] at h
    by_cases h4 : T.length < 4 ∨ T.getD 0 0 ≠ 92 ∨ T.getD 1 0 ≠ 120
    · rw [if_pos h4] at h
      cases h
    · rw [if_neg h4] at h
      by_cases h5 : dig (T.getD 2 0) < 0 ∨ dig (T.getD 3 0) < 0
      · rw [if_pos h5] at h
        cases h
      · rw [if_neg h5] at h
        by_cases h6 : plainB (16 * dig (T.getD 2 0) + dig (T.getD 3 0)) = true
        · rw [if_pos h6] at h
          cases h
        · rw [if_neg h6] at h
          injection h with h
          injection h with h1 h2
          have s2 := dig_spec (T.getD 2 0)
          have s3 := dig_spec (T.getD 3 0)
          have a0 : T.getD 0 0 = 92 := by
            rcases Int.lt_trichotomy (T.getD 0 0) 92 with h | h | h
            · exact absurd (.inr (.inl (by omega))) h4
            · exact h
            · exact absurd (.inr (.inl (by omega))) h4
          have a1 : T.getD 1 0 = 120 := by
            rcases Int.lt_trichotomy (T.getD 1 0) 120 with h | h | h
            · exact absurd (.inr (.inr (by omega))) h4
            · exact h
            · exact absurd (.inr (.inr (by omega))) h4
          have hq : qb b = [92, 120, T.getD 2 0, T.getD 3 0] := by
            unfold qb
            rw [← h1, if_neg h6, show (16 * dig (T.getD 2 0) + dig (T.getD 3 0)) / 16 = dig (T.getD 2 0) by omega, show (16 * dig (T.getD 2 0) + dig (T.getD 3 0)) % 16 = dig (T.getD 3 0) by omega]
            rcases s2 with s2 | s2
            · omega
            · rcases s3 with s3 | s3
              · omega
              · rw [s2.2.2, s3.2.2]
          refine ⟨by omega, by omega, by rw [hq, ← h2]; rfl, ?_⟩
          rw [hq, ← h2]
          have e := list_pre4 T (by omega)
          conv => lhs; rw [e]
          rw [a0, a1]
          rfl
theorem dec_take (T : List Int) (b : Int) (h0 : 0 ≤ b) (h1 : b ≤ 255) (h : T.take (qb b).length = qb b) : dec T = some (b, (qb b).length) := by
  have e : T = qb b ++ T.drop (qb b).length := by
    conv => lhs; rw [← List.take_append_drop (qb b).length T, h]
  rw [e]
  have := dec_qb b (T.drop (qb b).length) h0 h1
  exact this
theorem str_inj {a b : List Int} (ha : ∀ x ∈ a, 0 ≤ x ∧ x ≤ 255) (hb : ∀ x ∈ b, 0 ≤ x ∧ x ≤ 255) (h : strOfNums a = strOfNums b) : a = b := by
  rw [← bytesI_str a ha, ← bytesI_str b hb, h]
theorem toList_inj' {a b : ByteArray} (h : a.toList = b.toList) : a = b := by
  rw [ByteArray.toList_eq, ByteArray.toList_eq] at h
  apply ByteArray.ext
  exact Array.toList_inj.1 h
/-- What is left of the inside at a place. -/
def rest (s : ByteArray) (at_ : Nat) : List Int := ((bytesI s).take (s.size - 1)).drop at_
theorem rest_len (s : ByteArray) (p : Nat) : (rest s p).length = s.size - 1 - p := by
  unfold rest
  rw [List.length_drop, List.length_take, bytesI_length]
  omega
theorem rest_range (s : ByteArray) (p : Nat) : ∀ x ∈ rest s p, 0 ≤ x ∧ x ≤ 255 := fun x hx => bytesI_range s x (List.mem_of_mem_take (List.mem_of_mem_drop hx))
theorem rest_drop (s : ByteArray) (p m : Nat) : (rest s p).drop m = rest s (p + m) := by unfold rest; rw [List.drop_drop]
theorem cut_eq (s : ByteArray) (p : Nat) (b : Int) (h0 : 0 ≤ b) (h1 : b ≤ 255) (hf : p + (qb b).length ≤ s.size - 1) : (s.extract p (p + (qb b).length)).toList = (strOfNums (qb b)).toList ↔ (rest s p).take (qb b).length = qb b := by
  have e : bytesI (s.extract p (p + (qb b).length)) = (rest s p).take (qb b).length := by
    rw [bytesI_mid]
    unfold rest
    rw [List.drop_take, List.drop_take, List.take_take]
    congr 1
    omega
  constructor
  · intro h
    rw [← e, toList_inj' h, bytesI_str _ (qb_range b h0 h1)]
  · intro h
    rw [← e] at h
    have : s.extract p (p + (qb b).length) = strOfNums (qb b) := by rw [← str_bytesI (s.extract p (p + (qb b).length)), h]
    rw [this]
def qans (s : ByteArray) (acc : List Int) : Option (List Int) → ByteArray × Int
  | none => (⟨#[]⟩, 6)
  | some L => if bt s 0 = 34 ∧ bt s ((s.size - 1 : Nat) : Int) = 34 then (strOfNums (acc ++ L), 0) else (⟨#[]⟩, 6)
/-- Behind a byte that was found: on to the next place. -/
theorem run_found (s : ByteArray) (acc : List Int) (p : Nat) (r : ByteArray × Int) (hr : Ev (fun k => heirloomref02_Unquote.l0 k s acc (p : Int)) r) (x : Int) : Ev (fun k => heirloomref02_Unquote.l1 k s acc (p : Int) true x) r := by
  refine Ev.step (f := fun k => heirloomref02_Unquote.j2 k s acc (p : Int) true x false) (fun k => ?_) ?_
  · simp only [heirloomref02_Unquote.l1, Bool.not_true, ite_self]
  · refine Ev.step (fun k => ?_) hr
    simp only [heirloomref02_Unquote.j2, if_true]
    rfl
theorem run_miss (s : ByteArray) (hs : s.size ≤ 140737488351) (acc : List Int) (p : Nat) (hp : p < s.size - 1) (r : ByteArray × Int) (b : Nat) (hb : b < 256) (hm : ¬ (rest s p).take (qb (b : Int)).length = qb (b : Int))
    (hr : Ev (fun k => heirloomref02_Unquote.l1 k s acc (p : Int) false ((b + 1 : Nat) : Int)) r) : Ev (fun k => heirloomref02_Unquote.l1 k s acc (p : Int) false (b : Int)) r := by
  have hl := qb_len (b : Int)
  refine Ev.step (f := fun k => heirloomref02_Unquote.j2 k s acc (p : Int) false (b : Int) true) (fun k => ?_) ?_
  · simp only [heirloomref02_Unquote.l1]
    rw [if_pos (by omega)]
    rfl
  · refine Ev.step (fun k => ?_) hr
    simp only [heirloomref02_Unquote.j2]
    have e1 : wrap64 ((p : Int) + ((qb (b : Int)).length : Int)) = ((p + (qb (b : Int)).length : Nat) : Int) := by unfold wrap64; omega
    have e2 : wrap64 ((s.size : Int) - 1) = ((s.size - 1 : Nat) : Int) := by unfold wrap64; omega
    rw [if_pos trivial, show ((b : Int) % 256) = (b : Int) by omega, one_eq _ (by omega) (by omega), Option.bind_some, strOfNums_size, e1, e2, wrap_succ b (by omega)]
    by_cases hf : p + (qb (b : Int)).length ≤ s.size - 1
    · rw [if_pos (by omega), if_pos (by omega), if_pos (by omega), if_pos (by omega), Int.toNat_natCast, Int.toNat_natCast, if_neg (fun h => hm ((cut_eq s p b (by omega) (by omega) hf).1 h))]
    · rw [if_neg (by omega)]
theorem run_hit (s : ByteArray) (hs : s.size ≤ 140737488351) (acc : List Int) (ha : acc.length < 140737488355328) (p : Nat) (hp : p < s.size - 1) (r : ByteArray × Int) (b : Nat) (hb : b < 256) (hm : (rest s p).take (qb (b : Int)).length = qb (b : Int))
    (hr : Ev (fun k => heirloomref02_Unquote.l0 k s (acc ++ [(b : Int)]) ((p + (qb (b : Int)).length : Nat) : Int)) r) : Ev (fun k => heirloomref02_Unquote.l1 k s acc (p : Int) false (b : Int)) r := by
  have hl := qb_len (b : Int)
  have hf : p + (qb (b : Int)).length ≤ s.size - 1 := by
    have h := congrArg List.length hm
    rw [List.length_take, rest_len] at h
    omega
  refine Ev.step (f := fun k => heirloomref02_Unquote.j2 k s acc (p : Int) false (b : Int) true) (fun k => ?_) ?_
  · simp only [heirloomref02_Unquote.l1]
    rw [if_pos (by omega)]
    rfl
  · refine Ev.step (fun k => ?_) (run_found s (acc ++ [(b : Int)]) (p + (qb (b : Int)).length) r hr ((b + 1 : Nat) : Int))
    simp only [heirloomref02_Unquote.j2]
    have e1 : wrap64 ((p : Int) + ((qb (b : Int)).length : Int)) = ((p + (qb (b : Int)).length : Nat) : Int) := by unfold wrap64; omega
    have e2 : wrap64 ((s.size : Int) - 1) = ((s.size - 1 : Nat) : Int) := by unfold wrap64; omega
    rw [if_pos trivial, show ((b : Int) % 256) = (b : Int) by omega, one_eq _ (by omega) (by omega), Option.bind_some, strOfNums_size, e1, e2, wrap_succ b (by omega)]
    rw [if_pos (by omega), if_pos (by omega), if_pos (by omega), if_pos (by omega), Int.toNat_natCast, Int.toNat_natCast, if_pos ((cut_eq s p b (by omega) (by omega) hf).2 hm), if_pos ha]
/-- No byte's quote begins the rest. -/
theorem run_none (s : ByteArray) (hs : s.size ≤ 140737488351) (acc : List Int) (p : Nat) (hp : p < s.size - 1) (hd : dec (rest s p) = none) : ∀ (d b : Nat), b + d = 256 → Ev (fun k => heirloomref02_Unquote.l1 k s acc (p : Int) false (b : Int)) (⟨#[]⟩, 6) := by
  intro d
  induction d with
  | zero =>
    intro b hb
    refine Ev.step (f := fun k => heirloomref02_Unquote.j2 k s acc (p : Int) false (b : Int) false) (fun k => ?_) ?_
    · simp only [heirloomref02_Unquote.l1]
      rw [if_neg (by omega)]
    · refine Ev.step (f := fun _ => some _) (fun k => ?_) (Ev.now _)
      simp only [heirloomref02_Unquote.j2]
      rfl
  | succ d ih =>
    intro b hb
    refine run_miss s hs acc p hp _ b (by omega) (fun h => ?_) (ih (b + 1) (by omega))
    rw [dec_take _ _ (by omega) (by omega) h] at hd
    cases hd
/-- The search for the byte comes to it. -/
theorem run_some (s : ByteArray) (hs : s.size ≤ 140737488351) (acc : List Int) (ha : acc.length < 140737488355328) (p : Nat) (hp : p < s.size - 1) (c m : Nat) (hc : c < 256) (hd : dec (rest s p) = some ((c : Int), m)) (r : ByteArray × Int)
    (hr : Ev (fun k => heirloomref02_Unquote.l0 k s (acc ++ [(c : Int)]) ((p + m : Nat) : Int)) r) : ∀ (d b : Nat), b + d = c → Ev (fun k => heirloomref02_Unquote.l1 k s acc (p : Int) false (b : Int)) r := by
  obtain ⟨_, _, hm, ht⟩ := dec_some _ (rest_range s p) (by rw [rest_len]; omega) _ _ hd
  subst hm
  intro d
  induction d with
  | zero =>
    intro b hb
    obtain rfl : b = c := by omega
    exact run_hit s hs acc ha p hp r b hc ht hr
  | succ d ih =>
    intro b hb
    refine run_miss s hs acc p hp r b (by omega) (fun h => ?_) (ih (b + 1) (by omega))
    rw [dec_take _ _ (by omega) (by omega) h] at hd
    injection hd with hd
    injection hd with hd _
    omega
theorem runq_ev (s : ByteArray) (hs : s.size ≤ 140737488351) (h2 : 2 ≤ s.size) : ∀ (n p : Nat) (acc : List Int), s.size - 1 - p ≤ n → acc.length + (s.size - p) < 140737488355328 → Ev (fun k => heirloomref02_Unquote.l0 k s acc (p : Int)) (qans s acc (unqL n (rest s p))) := by
  have e2 : wrap64 ((s.size : Int) - 1) = ((s.size - 1 : Nat) : Int) := by unfold wrap64; omega
  have fin : ∀ (p : Nat) (acc : List Int), s.size - 1 ≤ p → Ev (fun k => heirloomref02_Unquote.l0 k s acc (p : Int)) (qans s acc (some [])) := by
    intro p acc hp
    refine Ev.step (f := fun _ => some _) (fun k => ?_) (Ev.now _)
    simp only [heirloomref02_Unquote.l0, e2]
    rw [if_neg (by omega), if_pos (by omega)]
    have eq : qans s acc (some []) = if bt s 0 = 34 ∧ bt s ((s.size - 1 : Nat) : Int) = 34 then (strOfNums acc, 0) else (⟨#[]⟩, 6) := by
      show (if bt s 0 = 34 ∧ bt s ((s.size - 1 : Nat) : Int) = 34 then (strOfNums (acc ++ []), 0) else (⟨#[]⟩, 6)) = _
      rw [List.append_nil]
    rw [eq]
    by_cases h3 : bt s 0 = 34
    · rw [if_pos h3, if_pos (by omega), if_pos (by omega)]
      by_cases h4 : bt s ((s.size - 1 : Nat) : Int) = 34
      · rw [if_pos h4, if_pos ⟨h3, h4⟩]
      · rw [if_neg h4, if_neg (fun h => h4 h.2)]
    · rw [if_neg h3, if_neg (fun h => h3 h.1)]
  intro n
  induction n with
  | zero =>
    intro p acc hn ha
    have e : rest s p = [] := List.eq_nil_of_length_eq_zero (by rw [rest_len]; omega)
    rw [e]
    exact fin p acc (by omega)
  | succ n ih =>
    intro p acc hn ha
    by_cases hp : p < s.size - 1
    · have hl := rest_len s p
      have hu : unqL (n + 1) (rest s p) = match dec (rest s p) with
          | none => none
          | some (b, m) => (unqL n ((rest s p).drop m)).map fun L => b :: L := by
        cases hT : rest s p with
        | nil => rw [hT] at hl; simp at hl; omega
        | cons c T => rfl
      rw [hu]
      have start : ∀ r, Ev (fun k => heirloomref02_Unquote.l1 k s acc (p : Int) false ((0 : Nat) : Int)) r → Ev (fun k => heirloomref02_Unquote.l0 k s acc (p : Int)) r := by
        intro r hr
        refine Ev.step (fun k => ?_) hr
        simp only [heirloomref02_Unquote.l0, e2]
        rw [if_pos (by omega)]
        rfl
      apply start
      cases hd : dec (rest s p) with
      | none => exact run_none s hs acc p hp hd 256 0 (by omega)
      | some bm =>
        obtain ⟨b, m⟩ := bm
        obtain ⟨h0, h1, hm, ht⟩ := dec_some _ (rest_range s p) (by omega) _ _ hd
        obtain ⟨c, rfl⟩ := Int.eq_ofNat_of_zero_le h0
        have hq := qb_len (c : Int)
        have hfit : p + m ≤ s.size - 1 := by
          have h := congrArg List.length ht
          rw [List.length_take, rest_len] at h
          omega
        simp only
        have h := ih (p + m) (acc ++ [(c : Int)]) (by omega) (by rw [List.length_append]; simp; omega)
        rw [rest_drop]
        have e : qans s acc ((unqL n (rest s (p + m))).map fun L => (c : Int) :: L) = qans s (acc ++ [(c : Int)]) (unqL n (rest s (p + m))) := by
          cases unqL n (rest s (p + m)) with
          | none => rfl
          | some L => simp [qans]
        rw [e]
        exact run_some s hs acc (by omega) p hp c m (by omega) hd _ h c 0 (by omega)
    · have e : rest s p = [] := List.eq_nil_of_length_eq_zero (by rw [rest_len]; omega)
      rw [e]
      exact fin p acc (by omega)
theorem runquote_ev (s : ByteArray) (hs : s.size ≤ 140737488351) : Ev (fun k => heirloomref02_Unquote.f k s) (unq s) := by
  unfold heirloomref02_Unquote.f unq
  by_cases h2 : s.size < 2
  · have h2' : (s.size : Int) < 2 := by omega
    simp only [if_pos h2', if_pos h2]
    exact Ev.now _
  · have h2' : ¬ (s.size : Int) < 2 := by omega
    simp only [if_neg h2', if_neg h2]
    have h := runq_ev s hs (by omega) s.size 1 [] (by omega) (by simp; omega)
    have e : qans s [] (unqL s.size (rest s 1)) = if bt s 0 = 34 ∧ bt s ((s.size - 1 : Nat) : Int) = 34 then unqAns [] (unqL s.size (((bytesI s).take (s.size - 1)).drop 1)) else (⟨#[]⟩, 6) := by
      unfold rest
      cases unqL s.size (((bytesI s).take (s.size - 1)).drop 1) with
      | none =>
        show ((⟨#[]⟩, 6) : ByteArray × Int) = if bt s 0 = 34 ∧ bt s ((s.size - 1 : Nat) : Int) = 34 then (⟨#[]⟩, 6) else (⟨#[]⟩, 6)
        rw [ite_self]
      | some L => rfl
    rw [← e]
    exact h
theorem TextUnquotes : heirloomlaw02_TextUnquotes.Pure := by
  intro s hs
  apply Ev.rounds
  unfold heirloomlaw02_TextUnquotes.f
  by_cases hl : (s.size : Int) > 500
  · simp only [if_pos hl]
    exact Ev.bind alive_ev (Ev.now true)
  · simp only [if_neg hl]
    refine Ev.bind (g := fun k => text_Unquote.f k s) (tunquote_ev s (by omega)) ?_
    refine Ev.bind (g := fun k => heirloomref02_Unquote.f k s) (runquote_ev s (by omega)) ?_
    simp only [if_true, heirloomlaw02_no.f, Option.bind_some]
    exact Ev.bind alive_ev (Ev.now true)
end Go.Proofs.Ytllchgoppogibaa.Pure
