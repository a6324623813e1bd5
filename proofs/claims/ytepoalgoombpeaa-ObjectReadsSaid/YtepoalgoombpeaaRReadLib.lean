/- PROVED: what the document's reading of an object out of cells computes, in closed form. Conditions: those each theorem states. -/
import Derived.Test.YtepoalgoombpeaaReadLib
import Derived.Test.YtepoalgoombpeaaPrintx25
set_option linter.unusedVariables false
set_option linter.unusedSimpArgs false
namespace Go.Proofs.Ytepoalgoombpeaa.Pure
open Go.RowKit Go.Proofs.Ytepoalgoombpeaa.Print Go.Proofs.YtepoalgoombpeaaW.PrintWords Go.Proofs.YtepoalgoombpeaaW.PrintLast
theorem okV_range {t n : Int} (h : t < 0 ∨ 11 < t) : okV ⟨t, n⟩ = false := by
  unfold okV valueZ
  simp only
  rw [if_neg (by omega), if_neg (by omega), if_neg (by omega), if_neg (by omega)]
  by_cases h4 : 4 ≤ t
  · have : ¬ t ≤ 11 := by omega
    simp [this]
  · simp [h4]
set_option maxHeartbeats 2000000 in
theorem rReadL (l : List Int) (h0 h1 h2 h3 h4 h5 : Int) (A B : Nat) (g0 g1 g2 g3 g4 g5 g6 g7 : Int) (aux : List Int) (hl : l.length = 2 + A + 2 * B) (hA : A ≤ 4096) (hB : B ≤ 4096) : ∀ (d i : Nat) (acc : List S38), i + d = B → acc.length + d < 1000000 → Ev (fun k => heirloomref04_Read.l0 k l (i : Int) h0 h1 h2 h3 h4 h5 (A : Int) (B : Int) g0 g1 g2 g3 g4 g5 g6 g7 aux acc) (readTail g0 g1 g2 g3 g4 g5 g6 g7 aux acc (l.drop (2 + A + 2 * i))) := by
  intro d
  induction d with
  | zero =>
    intro i acc e0 ha
    have e : l.drop (2 + A + 2 * i) = [] := List.drop_eq_nil_of_le (by omega)
    rw [e]
    refine Ev.step (f := fun _ => some (g0, g1, g2, g3, g4, g5, g6, g7, aux, acc, 0)) (fun k => ?_) ?_
    · simp only [heirloomref04_Read.l0]
      rw [if_neg (by omega)]
    · simp only [readTail, pairsOf, List.all_nil, List.append_nil, if_true]
      exact evNow _
  | succ d ih =>
    intro i acc e0 ha
    have hi : 2 + A + 2 * i < l.length := by omega
    have hi1 : 2 + A + 2 * i + 1 < l.length := by omega
    have w1 : wrap64 (2 + (A : Int)) = 2 + (A : Int) := by unfold wrap64; omega
    have w2 : wrap64 (2 * (i : Int)) = 2 * (i : Int) := by unfold wrap64; omega
    have w3 : wrap64 (2 + (A : Int) + 2 * (i : Int)) = ((2 + A + 2 * i : Nat) : Int) := by unfold wrap64; omega
    have w4 : wrap64 (((2 + A + 2 * i : Nat) : Int) + 1) = ((2 + A + 2 * i + 1 : Nat) : Int) := by unfold wrap64; omega
    have w5 : wrap64 ((i : Int) + 1) = ((i + 1 : Nat) : Int) := by unfold wrap64; omega
    have e : l.drop (2 + A + 2 * i) = l[2 + A + 2 * i] :: l[2 + A + 2 * i + 1] :: l.drop (2 + A + 2 * (i + 1)) := by
      rw [List.drop_eq_getElem_cons hi, List.drop_eq_getElem_cons hi1]
      rfl
    rw [e]
    obtain ⟨t, ht⟩ : ∃ t, t = l[2 + A + 2 * i] := ⟨_, rfl⟩
    obtain ⟨n, hn⟩ : ∃ n, n = l[2 + A + 2 * i + 1] := ⟨_, rfl⟩
    have rt : rd l ((2 + A + 2 * i : Nat) : Int) = t := by rw [rd_nat hi, ht]
    have rn : rd l ((2 + A + 2 * i + 1 : Nat) : Int) = n := by rw [rd_nat hi1, hn]
    rw [← ht, ← hn]
    have f1 : (i : Int) < (B : Int) := by omega
    have f2 : (0 : Int) ≤ ((2 + A + 2 * i : Nat) : Int) := Int.natCast_nonneg _
    have f3 : ((2 + A + 2 * i : Nat) : Int) < (l.length : Int) := by omega
    have f4 : (0 : Int) ≤ ((2 + A + 2 * i + 1 : Nat) : Int) := Int.natCast_nonneg _
    have f5 : ((2 + A + 2 * i + 1 : Nat) : Int) < (l.length : Int) := by omega
    have hv : Ev (fun k => heirloomref04_Value.f k t n) (okV ⟨t, n⟩) := evFrom 1 (fun m => rValue m _ _)
    by_cases hr : t < 0 ∨ 11 < t
    · have hok := okV_range (n := n) hr
      refine Ev.step (f := fun _ => some noObj) (fun k => ?_) ?_
      · simp only [heirloomref04_Read.l0]
        rw [if_pos f1, w1, w2, w3, if_pos f2, if_pos f3, w4, if_pos f4, if_pos f5, rt]
        by_cases h0 : t < 0
        · rw [if_pos h0]
          rfl
        · rw [if_neg h0, if_pos (by omega)]
          rfl
      · simp only [readTail, pairsOf, List.all_cons, hok, Bool.false_and, Bool.false_eq_true, if_false]
        exact evNow _
    · refine Ev.step (f := fun k => (heirloomref04_Value.f k t n).bind fun q => if q = true then heirloomref04_Read.l0 k l ((i + 1 : Nat) : Int) h0 h1 h2 h3 h4 h5 (A : Int) (B : Int) g0 g1 g2 g3 g4 g5 g6 g7 aux (acc ++ [⟨t, n⟩]) else some noObj) (fun k => ?_) ?_
      · simp only [heirloomref04_Read.l0]
        rw [if_pos f1, w1, w2, w3, if_pos f2, if_pos f3, w4, if_pos f4, if_pos f5, rt, rn, if_neg (by omega), if_neg (by omega), w5]
        congr 1
        funext q
        split
        · rw [if_pos (by omega)]
        · rfl
      · refine Ev.bind (f := fun k q => if q = true then heirloomref04_Read.l0 k l ((i + 1 : Nat) : Int) h0 h1 h2 h3 h4 h5 (A : Int) (B : Int) g0 g1 g2 g3 g4 g5 g6 g7 aux (acc ++ [⟨t, n⟩]) else some noObj) hv ?_
        cases hok : okV ⟨t, n⟩ with
        | true =>
          have := ih (i + 1) (acc ++ [⟨t, n⟩]) (by omega) (by simp; omega)
          simp only [if_true, readTail, pairsOf, List.all_cons, hok, Bool.true_and, List.append_assoc, List.cons_append, List.nil_append] at this ⊢
          exact this
        | false =>
          simp only [Bool.false_eq_true, if_false, readTail, pairsOf, List.all_cons, hok, Bool.false_and]
          exact evNow _
theorem rRead (l : List Int) (hl : l.length ≤ 100000) (hw : ∀ n ∈ l, (Lit.int .i64 n).wf = true) : Ev (fun k => heirloomref04_Read.f k l) (readZ l) := by
  unfold readZ
  by_cases h2 : l.length < 2
  · rw [if_pos h2]
    refine Ev.congr (f := fun _ => some noObj) (fun k => ?_) (evNow _)
    unfold heirloomref04_Read.f
    rw [if_pos (by omega)]
    rfl
  · rw [if_neg h2]
    have b0 := rd_le hw 0
    have b1 := rd_le hw 1
    have hu : Ev (fun k => heirloomref04_Unpack.f k (rd l 0) (rd l 1)) (headZ l) := evFrom 2 (fun m => rUnpack m _ _ b0 b1)
    have hsz : Ev (fun k => heirloomref04_Size.f k (headZ l).1 (headZ l).2.1 (headZ l).2.2.1 (headZ l).2.2.2.1 (headZ l).2.2.2.2.1 (headZ l).2.2.2.2.2.1 (headZ l).2.2.2.2.2.2.1 (headZ l).2.2.2.2.2.2.2.1) (sizeH (headZ l)) := evFrom 1 (fun m => rSize m _ _ _ _ _ _ _ _)
    refine Ev.congr (f := fun k => (heirloomref04_Unpack.f k (rd l 0) (rd l 1)).bind fun bt => (if bt.2.2.2.2.2.2.2.2 = 0 then ((heirloomref04_Size.f k bt.1 bt.2.1 bt.2.2.1 bt.2.2.2.1 bt.2.2.2.2.1 bt.2.2.2.2.2.1 bt.2.2.2.2.2.2.1 bt.2.2.2.2.2.2.2.1).bind fun t => heirloomref04_Read.j0 k l (t != (l.length : Int)) bt.1 bt.2.1 bt.2.2.1 bt.2.2.2.1 bt.2.2.2.2.1 bt.2.2.2.2.2.1 bt.2.2.2.2.2.2.1 bt.2.2.2.2.2.2.2.1) else heirloomref04_Read.j0 k l true bt.1 bt.2.1 bt.2.2.1 bt.2.2.2.1 bt.2.2.2.2.1 bt.2.2.2.2.2.1 bt.2.2.2.2.2.2.1 bt.2.2.2.2.2.2.2.1)) (fun k => ?_) ?_
    · unfold heirloomref04_Read.f
      rw [if_neg (by omega), if_pos (by omega), if_pos (by omega)]
    refine Ev.bind (f := fun k bt => (if bt.2.2.2.2.2.2.2.2 = 0 then ((heirloomref04_Size.f k bt.1 bt.2.1 bt.2.2.1 bt.2.2.2.1 bt.2.2.2.2.1 bt.2.2.2.2.2.1 bt.2.2.2.2.2.2.1 bt.2.2.2.2.2.2.2.1).bind fun t => heirloomref04_Read.j0 k l (t != (l.length : Int)) bt.1 bt.2.1 bt.2.2.1 bt.2.2.2.1 bt.2.2.2.2.1 bt.2.2.2.2.2.1 bt.2.2.2.2.2.2.1 bt.2.2.2.2.2.2.2.1) else heirloomref04_Read.j0 k l true bt.1 bt.2.1 bt.2.2.1 bt.2.2.2.1 bt.2.2.2.2.1 bt.2.2.2.2.2.1 bt.2.2.2.2.2.2.1 bt.2.2.2.2.2.2.2.1)) hu ?_
    by_cases he : (headZ l).2.2.2.2.2.2.2.2 = 0
    · simp only [if_pos he]
      refine Ev.bind (f := fun k t => heirloomref04_Read.j0 k l (t != (l.length : Int)) (headZ l).1 (headZ l).2.1 (headZ l).2.2.1 (headZ l).2.2.2.1 (headZ l).2.2.2.2.1 (headZ l).2.2.2.2.2.1 (headZ l).2.2.2.2.2.2.1 (headZ l).2.2.2.2.2.2.2.1) hsz ?_
      by_cases hs : sizeH (headZ l) = (l.length : Int)
      · rw [if_pos ⟨he, hs⟩]
        obtain ⟨g0, g1, g2, g3, g4⟩ := head_bounds he hs
        obtain ⟨A, hA⟩ : ∃ A : Nat, (headZ l).2.2.2.2.2.2.1 = (A : Int) := ⟨(headZ l).2.2.2.2.2.2.1.toNat, by omega⟩
        obtain ⟨B, hB⟩ : ∃ B : Nat, (headZ l).2.2.2.2.2.2.2.1 = (B : Int) := ⟨(headZ l).2.2.2.2.2.2.2.1.toNat, by omega⟩
        have hwa : wrap64 (2 + (A : Int)) = ((2 + A : Nat) : Int) := by unfold wrap64; omega
        have hb : (sizeH (headZ l) != (l.length : Int)) = false := bne_eq_false_iff_eq.2 hs
        have hcut : (l.take ((2 + A : Nat) : Int).toNat).drop 2 = (l.drop 2).take A := by
          rw [Int.toNat_natCast, List.drop_take]
          congr 1
          omega
        have hlen : ((l.drop 2).take A).length ≤ l.length := by simp; omega
        rw [hb]
        refine Ev.step (f := fun k => heirloomref04_Read.l0 k l ((0 : Nat) : Int) (headZ l).1 (headZ l).2.1 (headZ l).2.2.1 (headZ l).2.2.2.1 (headZ l).2.2.2.2.1 (headZ l).2.2.2.2.2.1 (A : Int) (B : Int) (headZ l).1 (headZ l).2.1 (headZ l).2.2.1 (headZ l).2.2.2.1 (headZ l).2.2.2.2.1 (headZ l).2.2.2.2.2.1 (headZ l).2.2.2.2.2.2.1 (headZ l).2.2.2.2.2.2.2.1 ((l.drop 2).take A) []) (fun k => ?_) ?_
        · simp only [heirloomref04_Read.j0, Bool.false_eq_true, if_false]
          rw [hA, hB, hwa, if_pos (by omega), if_pos (by omega), hcut, if_pos (by simp only [List.length_nil]; omega)]
          rfl
        · have e1 : (headZ l).2.2.2.2.2.2.1.toNat = A := by omega
          rw [e1]
          exact rReadL l _ _ _ _ _ _ A B _ _ _ _ _ _ _ _ _ (by omega) (by omega) (by omega) B 0 [] (by omega) (by simp only [List.length_nil]; omega)
      · rw [if_neg (fun hh => hs hh.2), bne_iff_ne.2 hs]
        refine Ev.step (f := fun _ => some noObj) (fun k => ?_) (evNow _)
        simp only [heirloomref04_Read.j0, if_true]
        rfl
    · rw [if_neg (fun hh => he hh.1)]
      simp only [if_neg he]
      refine Ev.step (f := fun _ => some noObj) (fun k => ?_) (evNow _)
      simp only [heirloomref04_Read.j0, if_true]
      rfl
end Go.Proofs.Ytepoalgoombpeaa.Pure
