/- PROVED: what reading an object out of cells computes, in closed form, and that an object is the same as itself. Conditions: those each theorem states. -/
import Derived.Test.YtepoalgoombpeaaCellsLib
import Derived.Test.YtepoalgoombpeaaPrintx11
import Derived.Test.YtepoalgoombpeaaPrintx12
set_option linter.unusedVariables false
set_option linter.unusedSimpArgs false
namespace Go.Proofs.Ytepoalgoombpeaa.Pure
open Go.RowKit Go.Proofs.Ytepoalgoombpeaa.Print Go.Proofs.YtepoalgoombpeaaW.PrintWords Go.Proofs.YtepoalgoombpeaaW.PrintLast
abbrev Obj8 := Int × Int × Int × Int × Int × Int × Int × Int × List Int × List S38 × Int
def noObj : Obj8 := (0, 0, 0, 0, 0, 0, 0, 0, [], [], 6)
def pairsOf : List Int → List S38
  | t :: n :: r => ⟨t, n⟩ :: pairsOf r
  | _ => []
def readTail (h0 h1 h2 h3 h4 h5 h6 h7 : Int) (aux : List Int) (acc : List S38) (l : List Int) : Obj8 :=
  if (pairsOf l).all okV = true then (h0, h1, h2, h3, h4, h5, h6, h7, aux, acc ++ pairsOf l, 0) else noObj
theorem rd_nat {xs : List Int} {i : Nat} (h : i < xs.length) : rd xs (i : Int) = xs[i] := by
  unfold rd
  rw [Int.toNat_natCast]
  simp [List.getD, h]
theorem oReadL (l : List Int) (h0 h1 h2 h3 h4 h5 h6 h7 : Int) (aux : List Int) (hl : l.length ≤ 100000) : ∀ (d i : Nat) (acc : List S38), i + 2 * d = l.length → acc.length + d < 1000000 → Ev (fun k => object_Read.l0 k l (i : Int) h0 h1 h2 h3 h4 h5 h6 h7 aux acc) (readTail h0 h1 h2 h3 h4 h5 h6 h7 aux acc (l.drop i)) := by
  intro d
  induction d with
  | zero =>
    intro i acc e0 ha
    have e : l.drop i = [] := List.drop_eq_nil_of_le (by omega)
    rw [e]
    refine Ev.step (f := fun _ => some (h0, h1, h2, h3, h4, h5, h6, h7, aux, acc, 0)) (fun k => ?_) ?_
    · simp only [object_Read.l0]
      rw [if_neg (by omega)]
    · simp only [readTail, pairsOf, List.all_nil, List.append_nil, if_true]
      exact evNow _
  | succ d ih =>
    intro i acc e0 ha
    have hi : i < l.length := by omega
    have hi1 : i + 1 < l.length := by omega
    have hw : wrap64 ((i : Int) + 1) = ((i + 1 : Nat) : Int) := by unfold wrap64; omega
    have hw2 : wrap64 ((i : Int) + 2) = ((i + 2 : Nat) : Int) := by unfold wrap64; omega
    have e : l.drop i = l[i] :: l[i + 1] :: l.drop (i + 2) := by
      rw [List.drop_eq_getElem_cons hi, List.drop_eq_getElem_cons hi1]
    rw [e]
    have hv : Ev (fun k => object_Value.f k l[i] l[i + 1]) (okV ⟨l[i], l[i + 1]⟩) := evFrom 1 (fun m => oValue m _ _)
    refine Ev.step (f := fun k => (object_Value.f k l[i] l[i + 1]).bind fun t => if t = true then object_Read.l0 k l ((i + 2 : Nat) : Int) h0 h1 h2 h3 h4 h5 h6 h7 aux (acc ++ [⟨l[i], l[i + 1]⟩]) else some noObj) (fun k => ?_) ?_
    · simp only [object_Read.l0]
      rw [if_pos (by omega), if_pos (by omega), hw, if_pos (by omega), if_pos (by omega), if_pos trivial, rd_nat hi, rd_nat hi1, hw2]
      congr 1
      funext t
      split
      · rw [if_pos (by omega)]
      · rfl
    · refine Ev.bind (f := fun k t => if t = true then object_Read.l0 k l ((i + 2 : Nat) : Int) h0 h1 h2 h3 h4 h5 h6 h7 aux (acc ++ [⟨l[i], l[i + 1]⟩]) else some noObj) hv ?_
      cases hok : okV ⟨l[i], l[i + 1]⟩ with
      | true =>
        have := ih (i + 2) (acc ++ [⟨l[i], l[i + 1]⟩]) (by omega) (by simp; omega)
        simp only [if_true, readTail, pairsOf, List.all_cons, hok, Bool.true_and, List.append_assoc, List.cons_append, List.nil_append] at this ⊢
        exact this
      | false =>
        simp only [Bool.false_eq_true, if_false, readTail, pairsOf, List.all_cons, hok, Bool.false_and]
        exact evNow _
/-- The head of the first two cells. -/
def headZ (l : List Int) : Int × Int × Int × Int × Int × Int × Int × Int × Int := unpackZ (rd l 0) (rd l 1)
def sizeH (u : Int × Int × Int × Int × Int × Int × Int × Int × Int) : Int := sizeZ u.1 u.2.1 u.2.2.1 u.2.2.2.1 u.2.2.2.2.1 u.2.2.2.2.2.1 u.2.2.2.2.2.2.1 u.2.2.2.2.2.2.2.1
def readZ (l : List Int) : Obj8 :=
  if l.length < 2 then noObj
  else if (headZ l).2.2.2.2.2.2.2.2 = 0 ∧ sizeH (headZ l) = (l.length : Int) then
    readTail (headZ l).1 (headZ l).2.1 (headZ l).2.2.1 (headZ l).2.2.2.1 (headZ l).2.2.2.2.1 (headZ l).2.2.2.2.2.1 (headZ l).2.2.2.2.2.2.1 (headZ l).2.2.2.2.2.2.2.1 ((l.drop 2).take (headZ l).2.2.2.2.2.2.1.toNat) [] (l.drop (2 + (headZ l).2.2.2.2.2.2.1.toNat))
  else noObj
theorem unpack_right {a b : Int} (h : (unpackZ a b).2.2.2.2.2.2.2.2 = 0) : rightZ (unpackZ a b).1 (unpackZ a b).2.1 (unpackZ a b).2.2.1 (unpackZ a b).2.2.2.1 (unpackZ a b).2.2.2.2.1 (unpackZ a b).2.2.2.2.2.1 (unpackZ a b).2.2.2.2.2.2.1 (unpackZ a b).2.2.2.2.2.2.2.1 = 0 := by
  unfold unpackZ at h ⊢
  split
  · rename_i hn
    rw [if_pos hn] at h
    simp at h
  · rename_i hn
    rw [if_neg hn] at h
    split
    · rename_i hz
      exact hz
    · rename_i hz
      rw [if_neg hz] at h
      simp at h
theorem head_bounds {l : List Int} (h : (headZ l).2.2.2.2.2.2.2.2 = 0) (hs : sizeH (headZ l) = (l.length : Int)) : 0 ≤ (headZ l).2.2.2.2.2.2.1 ∧ (headZ l).2.2.2.2.2.2.1 ≤ 4096 ∧ 0 ≤ (headZ l).2.2.2.2.2.2.2.1 ∧ (headZ l).2.2.2.2.2.2.2.1 ≤ 4096 ∧ (l.length : Int) = 2 + (headZ l).2.2.2.2.2.2.1 + 2 * (headZ l).2.2.2.2.2.2.2.1 := by
  have hr := unpack_right h
  have hz := rightZ.zero hr
  unfold sizeH sizeZ at hs
  have hr' : rightZ (headZ l).1 (headZ l).2.1 (headZ l).2.2.1 (headZ l).2.2.2.1 (headZ l).2.2.2.2.1 (headZ l).2.2.2.2.2.1 (headZ l).2.2.2.2.2.2.1 (headZ l).2.2.2.2.2.2.2.1 = 0 := hr
  rw [if_pos hr'] at hs
  exact ⟨hz.2.2.2.2.2.2.1.1, hz.2.2.2.2.2.2.1.2, hz.2.2.2.2.2.2.2.1, hz.2.2.2.2.2.2.2.2, by omega⟩
theorem rd_le {l : List Int} (hw : ∀ n ∈ l, (Lit.int .i64 n).wf = true) (i : Nat) : -9223372036854775808 ≤ rd l (i : Int) ∧ rd l (i : Int) ≤ 9223372036854775807 := by
  by_cases h : i < l.length
  · rw [rd_nat h]
    exact wf_i64 (hw _ (List.getElem_mem h))
  · unfold rd
    rw [Int.toNat_natCast]
    simp [List.getD, List.getElem?_eq_none (Nat.le_of_not_lt h)]
theorem oRead (l : List Int) (hl : l.length ≤ 100000) (hw : ∀ n ∈ l, (Lit.int .i64 n).wf = true) : Ev (fun k => object_Read.f k l) (readZ l) := by
  unfold readZ
  by_cases h2 : l.length < 2
  · rw [if_pos h2]
    refine Ev.congr (f := fun _ => some noObj) (fun k => ?_) (evNow _)
    unfold object_Read.f
    rw [if_pos (by omega)]
    rfl
  · rw [if_neg h2]
    have b0 := rd_le hw 0
    have b1 := rd_le hw 1
    have hu : ∀ k, object_Unpack.f k (rd l 0) (rd l 1) = some (headZ l) := fun k => oUnpack k _ _ b0.2 b1.2
    have hsz : Ev (fun k => object_Size.f k (headZ l).1 (headZ l).2.1 (headZ l).2.2.1 (headZ l).2.2.2.1 (headZ l).2.2.2.2.1 (headZ l).2.2.2.2.2.1 (headZ l).2.2.2.2.2.2.1 (headZ l).2.2.2.2.2.2.2.1) (sizeH (headZ l)) := evFrom 2 (fun m => oSize m _ _ _ _ _ _ _ _)
    by_cases he : (headZ l).2.2.2.2.2.2.2.2 = 0
    · refine Ev.congr (f := fun k => (object_Size.f k (headZ l).1 (headZ l).2.1 (headZ l).2.2.1 (headZ l).2.2.2.1 (headZ l).2.2.2.2.1 (headZ l).2.2.2.2.2.1 (headZ l).2.2.2.2.2.2.1 (headZ l).2.2.2.2.2.2.2.1).bind fun t => object_Read.j0 k l (t != (l.length : Int)) (headZ l).1 (headZ l).2.1 (headZ l).2.2.1 (headZ l).2.2.2.1 (headZ l).2.2.2.2.1 (headZ l).2.2.2.2.2.1 (headZ l).2.2.2.2.2.2.1 (headZ l).2.2.2.2.2.2.2.1) (fun k => ?_) ?_
      · unfold object_Read.f
        rw [if_neg (by omega), if_pos (by omega), if_pos (by omega), hu k]
        simp only [Option.bind_some]
        rw [if_pos he]
      · refine Ev.bind (f := fun k t => object_Read.j0 k l (t != (l.length : Int)) (headZ l).1 (headZ l).2.1 (headZ l).2.2.1 (headZ l).2.2.2.1 (headZ l).2.2.2.2.1 (headZ l).2.2.2.2.2.1 (headZ l).2.2.2.2.2.2.1 (headZ l).2.2.2.2.2.2.2.1) hsz ?_
        by_cases hs : sizeH (headZ l) = (l.length : Int)
        · rw [if_pos ⟨he, hs⟩]
          obtain ⟨g0, g1, g2, g3, g4⟩ := head_bounds he hs
          obtain ⟨A, hA⟩ : ∃ A : Nat, (headZ l).2.2.2.2.2.2.1 = (A : Int) := ⟨(headZ l).2.2.2.2.2.2.1.toNat, by omega⟩
          obtain ⟨B, hB⟩ : ∃ B : Nat, (headZ l).2.2.2.2.2.2.2.1 = (B : Int) := ⟨(headZ l).2.2.2.2.2.2.2.1.toNat, by omega⟩
          have hwa : wrap64 (2 + (A : Int)) = ((2 + A : Nat) : Int) := by unfold wrap64; omega
          have hb : (sizeH (headZ l) != (l.length : Int)) = false := bne_eq_false_iff_eq.2 hs
          have hcut : (l.take ((2 + A : Nat) : Int).toNat).drop 2 = (l.drop 2).take A := by
            rw [Int.toNat_natCast, List.drop_take]
            congr 1
            omega
          have hlen : ((l.drop 2).take A).length ≤ l.length := by simp; omega
          rw [hb]
          refine Ev.step (f := fun k => object_Read.l0 k l ((2 + A : Nat) : Int) (headZ l).1 (headZ l).2.1 (headZ l).2.2.1 (headZ l).2.2.2.1 (headZ l).2.2.2.2.1 (headZ l).2.2.2.2.2.1 (headZ l).2.2.2.2.2.2.1 (headZ l).2.2.2.2.2.2.2.1 ((l.drop 2).take A) []) (fun k => ?_) ?_
          · simp only [object_Read.j0, Bool.false_eq_true, if_false, Option.bind_some]
            rw [hA, hwa, if_pos (by omega), if_pos (by omega), hcut, if_pos (by simp only [List.length_nil]; omega)]
            rfl
          · have e1 : (headZ l).2.2.2.2.2.2.1.toNat = A := by omega
            rw [e1]
            exact oReadL l _ _ _ _ _ _ _ _ _ hl B (2 + A) [] (by omega) (by simp only [List.length_nil]; omega)
        · rw [if_neg (fun hh => hs hh.2), bne_iff_ne.2 hs]
          refine Ev.step (f := fun _ => some noObj) (fun k => ?_) (evNow _)
          simp only [object_Read.j0, if_true]
          rfl
    · rw [if_neg (fun hh => he hh.1)]
      refine Ev.congr (f := fun k => object_Read.j0 k l true (headZ l).1 (headZ l).2.1 (headZ l).2.2.1 (headZ l).2.2.2.1 (headZ l).2.2.2.2.1 (headZ l).2.2.2.2.2.1 (headZ l).2.2.2.2.2.2.1 (headZ l).2.2.2.2.2.2.2.1) (fun k => ?_) ?_
      · unfold object_Read.f
        rw [if_neg (by omega), if_pos (by omega), if_pos (by omega), hu k]
        simp only [Option.bind_some]
        rw [if_neg he]
      · refine Ev.step (f := fun _ => some noObj) (fun k => ?_) (evNow _)
        simp only [object_Read.j0, if_true]
        rfl
end Go.Proofs.Ytepoalgoombpeaa.Pure
