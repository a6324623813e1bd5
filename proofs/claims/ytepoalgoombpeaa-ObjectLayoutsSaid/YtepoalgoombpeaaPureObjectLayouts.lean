/- PROVED: the law's Lean function is true of every object. Conditions: none. -/
import Derived.Test.YtepoalgoombpeaaUnpLib
import Derived.Test.YtepoalgoombpeaaPrintx32
set_option linter.unusedVariables false
set_option linter.unusedSimpArgs false
namespace Go.Proofs.Ytepoalgoombpeaa.Pure
open Go.RowKit Go.Proofs.Ytepoalgoombpeaa.Print Go.Proofs.YtepoalgoombpeaaW.PrintWords Go.Proofs.YtepoalgoombpeaaW.PrintLast
def pow2 (y : Int) : Bool := Go.bits .and .i64 y (wrap64 (y - 1)) == 0
set_option maxRecDepth 100000 in
theorem pow_all : ∀ i : Fin 4097, heirloomref04_power.f 20 (i.val : Int) = some (pow2 (i.val : Int)) := by decide +kernel
theorem evOf {α : Type} {g : Nat → Option α} {r : α} (hg : ∀ k, LeO (g k) (g (k + 1))) {k : Nat} (h : g k = some r) : Ev g r := ⟨k, fun m hm => by
  induction hm with
  | refl => exact h
  | step _ ih => exact hg _ _ ih⟩
theorem rPower {y : Int} (h0 : 0 ≤ y) (h1 : y ≤ 4096) : Ev (fun k => heirloomref04_power.f k y) (pow2 y) := by
  have := pow_all ⟨y.toNat, by omega⟩
  simp only at this
  rw [show ((y.toNat : Nat) : Int) = y by omega] at this
  exact evOf (g := fun k => heirloomref04_power.f k y) (fun k => heirloomref04_power.mono y k) this
def tableZ (l8 : List Int) (l9 : List S38) : Bool := decide (l8.length = 2 ∧ 0 ≤ rd l8 0 ∧ rd l8 0 ≤ 4096 ∧ 0 ≤ rd l8 1 ∧ rd l8 1 ≤ 4096) && (pow2 (rd l8 1) && ((l9.length : Int) == 1 + rd l8 0 + 2 * rd l8 1) && ((rd_T38 l9 0).f0 == 0 || (rd_T38 l9 0).f0 == 5))
def strZ (l8 : List Int) (l9 : List S38) : Bool := decide ((l9.length : Int) = 0 ∧ 0 < (l8.length : Int) ∧ 0 ≤ rd l8 0 ∧ rd l8 0 ≤ 32768) && ((TextMath.unp (l8.drop 1) (rd l8 0)).2 == 0)
def fitsZ (a0 : Int) (l8 : List Int) (l9 : List S38) : Bool :=
  if a0 = 4 then strZ l8 l9 else if a0 = 5 then tableZ l8 l9 else if a0 = 6 then fitsFunc l8 l9
  else if a0 = 7 then (((l8.length : Int) == 0) && ((l9.length : Int) == 1)) else if a0 = 8 then ((l8.length : Int) == 0) else ((l8.length : Int) == 1)
theorem rFits (a0 a1 a2 a3 a4 a5 a6 a7 : Int) (l8 : List Int) (l9 : List S38) (h8 : l8.length ≤ 300) (h9 : l9.length ≤ 300) : Ev (fun k => heirloomref04_fits.f k a0 a1 a2 a3 a4 a5 a6 a7 l8 l9) (fitsZ a0 l8 l9) := by
  unfold heirloomref04_fits.f fitsZ
  by_cases c4 : a0 = 4
  · simp only [if_pos c4]
    unfold fitsStr strZ
    by_cases hc : (l9.length : Int) = 0 ∧ 0 < (l8.length : Int) ∧ 0 ≤ rd l8 0 ∧ rd l8 0 ≤ 32768
    · simp only [if_pos hc, decide_eq_true hc, Bool.true_and]
      refine Ev.bind (f := fun _ u => some (u.2 == 0)) (U.runpack_ev (l8.drop 1) (rd l8 0) (by simp; omega) (by omega) (by omega)) ?_
      exact evNow _
    · simp only [if_neg hc, decide_eq_false hc, Bool.false_and]
      exact evNow _
  simp only [if_neg c4]
  by_cases c5 : a0 = 5
  · simp only [if_pos c5]
    unfold fitsTable tableZ
    by_cases hc : l8.length = 2 ∧ 0 ≤ rd l8 0 ∧ rd l8 0 ≤ 4096 ∧ 0 ≤ rd l8 1 ∧ rd l8 1 ≤ 4096
    · simp only [if_pos hc, decide_eq_true hc, Bool.true_and]
      refine Ev.bind (f := fun _ p => some (p && ((l9.length : Int) == 1 + rd l8 0 + 2 * rd l8 1) && ((rd_T38 l9 0).f0 == 0 || (rd_T38 l9 0).f0 == 5))) (rPower hc.2.2.2.1 hc.2.2.2.2) ?_
      exact evNow _
    · simp only [if_neg hc, decide_eq_false hc, Bool.false_and]
      exact evNow _
  simp only [if_neg c5]
  by_cases c6 : a0 = 6
  · simp only [if_pos c6]
    rw [if_pos (by omega)]
    exact evNow _
  simp only [if_neg c6]
  by_cases c7 : a0 = 7
  · simp only [if_pos c7]
    exact evNow _
  simp only [if_neg c7]
  by_cases c8 : a0 = 8
  · simp only [if_pos c8]
    exact evNow _
  simp only [if_neg c8]
  exact evNow _
theorem closL (l : List S38) (hl : l.length ≤ 10000) : ∀ (d i : Nat), i + d = l.length → Ev (fun k => object_closure.l0 k l (l.length : Int) (i : Int)) ((l.drop i).all (fun v => v.f0 == 7)) := by
  intro d
  induction d with
  | zero =>
    intro i e0
    rw [List.drop_eq_nil_of_le (by omega)]
    refine Ev.step (f := fun _ => some true) (fun k => ?_) (evNow _)
    simp only [object_closure.l0]
    rw [if_neg (by omega)]
  | succ d ih =>
    intro i e0
    have hi : i < l.length := by omega
    have hw : wrap64 ((i : Int) + 1) = ((i + 1 : Nat) : Int) := by unfold wrap64; omega
    rw [List.drop_eq_getElem_cons hi, List.all_cons]
    by_cases h7 : l[i].f0 = 7
    · rw [beq_iff_eq.2 h7, Bool.true_and]
      refine Ev.step (fun k => ?_) (ih (i + 1) (by omega))
      simp only [object_closure.l0]
      rw [if_pos (by omega), if_pos (by omega), if_pos (by omega), rd_val hi, if_pos h7, hw]
    · rw [beq_eq_false_iff_ne.2 h7, Bool.false_and]
      refine Ev.step (f := fun _ => some false) (fun k => ?_) (evNow _)
      simp only [object_closure.l0]
      rw [if_pos (by omega), if_pos (by omega), if_pos (by omega), rd_val hi, if_neg h7]
theorem oClosure (a0 a1 a2 a3 a4 a5 a6 a7 : Int) (l8 : List Int) (l9 : List S38) (h9 : l9.length ≤ 300) : Ev (fun k => object_closure.f k a0 a1 a2 a3 a4 a5 a6 a7 l8 l9) (fitsFunc l8 l9) := by
  have bad : Ev (fun k => object_closure.j0 k true a0 a1 a2 a3 a4 a5 a6 a7 l8 l9) false := by
    refine Ev.step (f := fun _ => some false) (fun k => ?_) (evNow _)
    simp only [object_closure.j0, if_true]
  unfold object_closure.f
  by_cases c1 : (l8.length : Int) > 0
  · simp only [if_pos c1]
    have e : fitsFunc l8 l9 = false := by
      have : ((l8.length : Int) == 0) = false := beq_eq_false_iff_ne.2 (by omega)
      unfold fitsFunc
      simp [this]
    rw [e]
    exact bad
  simp only [if_neg c1]
  by_cases c2 : (l9.length : Int) = 0
  · simp only [if_pos c2]
    have e : fitsFunc l8 l9 = false := by
      have : decide ((l9.length : Int) > 0) = false := decide_eq_false (by omega)
      unfold fitsFunc
      simp only [this, Bool.and_false, Bool.false_and]
    rw [e]
    exact bad
  have hp : (0 : Int) < (l9.length : Int) := by omega
  simp only [if_neg c2, if_pos hp]
  by_cases c3 : (rd_T38 l9 0).f0 = 9
  · have e : fitsFunc l8 l9 = (l9.drop 1).all (fun v => v.f0 == 7) := by
      have h1 : ((l8.length : Int) == 0) = true := beq_iff_eq.2 (by omega)
      have h2 : decide ((l9.length : Int) > 0) = true := decide_eq_true (by omega)
      unfold fitsFunc
      rw [h1, h2, beq_iff_eq.2 c3, Bool.and_true, Bool.and_true, Bool.and_true]
    rw [e, bne_eq_false_iff_eq.2 c3]
    refine Ev.step (f := fun k => object_closure.l0 k (l9.drop 1) ((l9.drop 1).length : Int) ((0 : Nat) : Int)) (fun k => ?_) ?_
    · simp only [object_closure.j0, Bool.false_eq_true, if_false, Option.bind_some]
      rw [if_pos (by omega)]
      rfl
    · exact closL (l9.drop 1) (by simp; omega) (l9.drop 1).length 0 (by omega)
  · have e : fitsFunc l8 l9 = false := by
      unfold fitsFunc
      rw [beq_eq_false_iff_ne.2 c3, Bool.and_false]
    rw [e, bne_iff_ne.2 c3]
    exact bad
theorem oTable (a0 a1 a2 a3 a4 a5 a6 a7 : Int) (l8 : List Int) (l9 : List S38) (h9 : l9.length ≤ 300) : Ev (fun k => object_table.f k a0 a1 a2 a3 a4 a5 a6 a7 l8 l9) (tableZ l8 l9) := by
  have bad : Ev (fun k => object_table.j0 k true a0 a1 a2 a3 a4 a5 a6 a7 l8 l9) false := by
    refine Ev.step (f := fun _ => some false) (fun k => ?_) (evNow _)
    simp only [object_table.j0, if_true]
  unfold object_table.f
  by_cases c1 : (l8.length : Int) = 2
  · simp only [if_pos c1]
    by_cases c2 : (l9.length : Int) = 0
    · simp only [if_pos c2]
      have e : tableZ l8 l9 = false := by
        unfold tableZ
        by_cases hc : l8.length = 2 ∧ 0 ≤ rd l8 0 ∧ rd l8 0 ≤ 4096 ∧ 0 ≤ rd l8 1 ∧ rd l8 1 ≤ 4096
        · have : ((l9.length : Int) == 1 + rd l8 0 + 2 * rd l8 1) = false := beq_eq_false_iff_ne.2 (by omega)
          rw [this, Bool.and_false, Bool.false_and, Bool.and_false]
        · rw [decide_eq_false hc, Bool.false_and]
      rw [e]
      exact bad
    · have hp : (0 : Int) < (l9.length : Int) := by omega
      simp only [if_neg c2, if_pos hp]
      obtain ⟨f, hf⟩ : ∃ f, f = (rd_T38 l9 0).f0 := ⟨_, rfl⟩
      by_cases c3 : f = 0 ∨ f = 5
      · have good : Ev (fun k => object_table.j0 k false a0 a1 a2 a3 a4 a5 a6 a7 l8 l9) (tableZ l8 l9) := by
          refine Ev.step (f := fun _ => some (tableZ l8 l9)) (fun k => ?_) (evNow _)
          simp only [object_table.j0, Bool.false_eq_true, if_false]
          rw [if_pos (by omega), if_pos (by omega)]
          have hff : ((rd_T38 l9 0).f0 == 0 || (rd_T38 l9 0).f0 == 5) = true := by rw [← hf]; simpa using c3
          unfold tableZ
          rw [hff, Bool.and_true]
          by_cases d1 : rd l8 0 < 0
          · rw [if_pos d1, decide_eq_false (by omega), Bool.false_and]
          rw [if_neg d1]
          by_cases d2 : rd l8 0 > 4096
          · rw [if_pos d2, decide_eq_false (by omega), Bool.false_and]
          rw [if_neg d2]
          by_cases d3 : rd l8 1 < 0
          · rw [if_pos d3, decide_eq_false (by omega), Bool.false_and]
          rw [if_neg d3]
          by_cases d4 : rd l8 1 > 4096
          · rw [if_pos d4, decide_eq_false (by omega), Bool.false_and]
          rw [if_neg d4, decide_eq_true (by omega), Bool.true_and]
          have e1 : wrap64 (1 + rd l8 0) = 1 + rd l8 0 := by unfold wrap64; omega
          have e2 : wrap64 (2 * rd l8 1) = 2 * rd l8 1 := by unfold wrap64; omega
          have e3 : wrap64 (1 + rd l8 0 + 2 * rd l8 1) = 1 + rd l8 0 + 2 * rd l8 1 := by unfold wrap64; omega
          rw [e1, e2, e3]
          unfold pow2
          by_cases d5 : Go.bits .and .i64 (rd l8 1) (wrap64 (rd l8 1 - 1)) = 0
          · rw [if_pos d5, beq_iff_eq.2 d5, Bool.true_and]
          · rw [if_neg d5, beq_eq_false_iff_ne.2 d5, Bool.false_and]
        by_cases c4 : f = 0
        · rw [← hf]
          simp only [if_pos c4]
          exact good
        · rw [← hf]
          simp only [if_neg c4]
          have c5 : f = 5 := by omega
          rw [bne_eq_false_iff_eq.2 c5]
          exact good
      · have e : tableZ l8 l9 = false := by
          have : ((rd_T38 l9 0).f0 == 0 || (rd_T38 l9 0).f0 == 5) = false := by rw [← hf]; simp; omega
          unfold tableZ
          rw [this, Bool.and_false, Bool.and_false]
        rw [e, ← hf]
        simp only [if_neg (fun h => c3 (.inl h) : ¬ f = 0)]
        rw [bne_iff_ne.2 (fun h => c3 (.inr h))]
        exact bad
  · simp only [if_neg c1]
    have e : tableZ l8 l9 = false := by
      unfold tableZ
      rw [decide_eq_false (by omega), Bool.false_and]
    rw [e]
    exact bad
theorem oStr (a0 a1 a2 a3 a4 a5 a6 a7 : Int) (l8 : List Int) (l9 : List S38) (h8 : l8.length ≤ 300) : object_str.f a0 a1 a2 a3 a4 a5 a6 a7 l8 l9 = some (strZ l8 l9) := by
  unfold object_str.f strZ
  by_cases c1 : (l9.length : Int) > 0
  · rw [if_pos c1, decide_eq_false (by omega), Bool.false_and]
  rw [if_neg c1]
  by_cases c2 : (l8.length : Int) = 0
  · rw [if_pos c2, decide_eq_false (by omega), Bool.false_and]
  rw [if_neg c2, if_pos (by omega)]
  by_cases c3 : rd l8 0 < 0
  · rw [if_pos c3, decide_eq_false (by omega), Bool.false_and]
  rw [if_neg c3]
  by_cases c4 : rd l8 0 > 32768
  · rw [if_pos c4, decide_eq_false (by omega), Bool.false_and]
  rw [if_neg c4, if_pos (by omega), decide_eq_true (by omega), Bool.true_and, U.tunpack _ _ (by simp; omega) (by omega) (by omega)]
  rfl
theorem oShape (a0 a1 a2 a3 a4 a5 a6 a7 : Int) (l8 : List Int) (l9 : List S38) (hk : 4 ≤ a0 ∧ a0 ≤ 9) (h8 : l8.length ≤ 300) (h9 : l9.length ≤ 300) : Ev (fun k => shapeFits k a0 a1 a2 a3 a4 a5 a6 a7 l8 l9) (fitsZ a0 l8 l9) := by
  unfold shapeFits fitsZ
  by_cases c4 : a0 = 4
  · simp only [if_pos c4, oStr a0 a1 a2 a3 a4 a5 a6 a7 l8 l9 h8]
    exact evNow _
  simp only [if_neg c4]
  by_cases c5 : a0 = 5
  · simp only [if_pos c5]
    exact oTable a0 a1 a2 a3 a4 a5 a6 a7 l8 l9 h9
  simp only [if_neg c5]
  by_cases c6 : a0 = 6
  · simp only [if_pos c6]
    exact oClosure a0 a1 a2 a3 a4 a5 a6 a7 l8 l9 h9
  simp only [if_neg c6]
  by_cases c7 : a0 = 7
  · simp only [if_pos c7]
    exact evNow _
  simp only [if_neg c7]
  by_cases c8 : a0 = 8
  · simp only [if_pos c8]
    exact evNow _
  simp only [if_neg c8]
  rw [if_pos (by omega)]
  exact evNow _
def deadFrom (K x : Int) (l : List S38) (i d : Nat) : Int := if (List.range d).any (fun j => deadAt K x l (i + j)) = true then 6 else 0
theorem deadFrom_succ (K x : Int) (l : List S38) (i d : Nat) : deadFrom K x l i (d + 1) = if deadAt K x l i = true then 6 else deadFrom K x l (i + 1) d := by
  unfold deadFrom
  rw [List.range_succ_eq_map, List.any_cons, List.any_map]
  have e : ((fun j => deadAt K x l (i + j)) ∘ Nat.succ) = fun j => deadAt K x l (i + 1 + j) := by
    funext j
    simp only [Function.comp, Nat.succ_eq_add_one]
    rw [show i + (j + 1) = i + 1 + j by omega]
  rw [e, Nat.add_zero]
  cases deadAt K x l i <;> simp
theorem rDead (a0 a1 a2 a3 a4 a5 a6 a7 : Int) (l8 : List Int) (l9 : List S38) (h9 : l9.length ≤ 300) (hx : a0 = 5 → 0 < l8.length ∧ 0 ≤ rd l8 0 ∧ rd l8 0 ≤ 4096) : ∀ (d i : Nat), i + d = l9.length → Ev (fun k => heirloomref04_Layout.l0 k (i : Int) a0 a1 a2 a3 a4 a5 a6 a7 l8 l9) (deadFrom a0 (rd l8 0) l9 i d) := by
  intro d
  induction d with
  | zero =>
    intro i e0
    refine Ev.step (f := fun _ => some 0) (fun k => ?_) (evNow _)
    simp only [heirloomref04_Layout.l0]
    rw [if_neg (by omega)]
  | succ d ih =>
    intro i e0
    have hw : wrap64 ((i : Int) + 1) = ((i + 1 : Nat) : Int) := by unfold wrap64; omega
    rw [deadFrom_succ]
    by_cases c1 : (rd_T38 l9 i).f0 = 11
    · by_cases c5 : a0 = 5
      · obtain ⟨g0, g1, g2⟩ := hx c5
        have e1 : wrap64 ((i : Int) - 1) = (i : Int) - 1 := by unfold wrap64; omega
        have e2 : wrap64 ((i : Int) - 1 - rd l8 0) = (i : Int) - 1 - rd l8 0 := by unfold wrap64; omega
        by_cases c2 : (i : Int) - 1 - rd l8 0 < 0
        · have hd : deadAt a0 (rd l8 0) l9 i = true := by
            unfold deadAt
            rw [beq_iff_eq.2 c1, decide_eq_false (by omega), Bool.false_and, Bool.and_false]
            rfl
          rw [if_pos hd]
          refine Ev.step (f := fun _ => some 6) (fun k => ?_) (evNow _)
          simp only [heirloomref04_Layout.l0]
          rw [if_pos (by omega), if_pos (by omega), if_pos c1, if_pos c5, if_pos (by omega), e1, e2, if_pos c2]
        · have et : Int.tmod ((i : Int) - 1 - rd l8 0) 2 = ((i : Int) - 1 - rd l8 0) % 2 := Int.tmod_eq_emod_of_nonneg (by omega)
          by_cases c3 : ((i : Int) - 1 - rd l8 0) % 2 = 0
          · have hd : deadAt a0 (rd l8 0) l9 i = false := by
              unfold deadAt
              rw [beq_iff_eq.2 c1, beq_iff_eq.2 c5, decide_eq_true (by omega), beq_iff_eq.2 c3]
              rfl
            rw [hd, if_neg (by decide)]
            refine Ev.step (fun k => ?_) (ih (i + 1) (by omega))
            simp only [heirloomref04_Layout.l0]
            rw [if_pos (by omega), if_pos (by omega), if_pos c1, if_pos c5, if_pos (by omega), e1, e2, if_neg c2, et, if_pos c3, hw]
          · have hd : deadAt a0 (rd l8 0) l9 i = true := by
              unfold deadAt
              rw [beq_iff_eq.2 c1, beq_eq_false_iff_ne.2 c3, Bool.and_false, Bool.and_false]
              rfl
            rw [if_pos hd]
            refine Ev.step (f := fun _ => some 6) (fun k => ?_) (evNow _)
            simp only [heirloomref04_Layout.l0]
            rw [if_pos (by omega), if_pos (by omega), if_pos c1, if_pos c5, if_pos (by omega), e1, e2, if_neg c2, et, if_neg c3]
      · have hd : deadAt a0 (rd l8 0) l9 i = true := by
          unfold deadAt
          rw [beq_iff_eq.2 c1, beq_eq_false_iff_ne.2 c5, Bool.false_and]
          rfl
        rw [if_pos hd]
        refine Ev.step (f := fun _ => some 6) (fun k => ?_) (evNow _)
        simp only [heirloomref04_Layout.l0]
        rw [if_pos (by omega), if_pos (by omega), if_pos c1, if_neg c5]
    · have hd : deadAt a0 (rd l8 0) l9 i = false := by
        unfold deadAt
        rw [beq_eq_false_iff_ne.2 c1, Bool.false_and]
      rw [hd, if_neg (by decide)]
      refine Ev.step (fun k => ?_) (ih (i + 1) (by omega))
      simp only [heirloomref04_Layout.l0]
      rw [if_pos (by omega), if_pos (by omega), if_neg c1, hw]
theorem fits_table {a0 : Int} {l8 : List Int} {l9 : List S38} (h : fitsZ a0 l8 l9 = true) : a0 = 5 → 0 < l8.length ∧ 0 ≤ rd l8 0 ∧ rd l8 0 ≤ 4096 := by
  intro h5
  unfold fitsZ at h
  rw [if_neg (by omega), if_pos h5] at h
  unfold tableZ at h
  have := of_decide_eq_true (Bool.and_eq_true_iff.1 h).1
  omega
def layoutZ (a0 a1 a2 a3 a4 a5 a6 a7 : Int) (l8 : List Int) (l9 : List S38) : Int :=
  if (cellsZ a0 a1 a2 a3 a4 a5 a6 a7 l8 l9).2 = 0 then (if fitsZ a0 l8 l9 = true then deadZ a0 (rd l8 0) l9 else 6) else (cellsZ a0 a1 a2 a3 a4 a5 a6 a7 l8 l9).2
theorem cells_kind {a0 a1 a2 a3 a4 a5 a6 a7 : Int} {l8 : List Int} {l9 : List S38} (h : (cellsZ a0 a1 a2 a3 a4 a5 a6 a7 l8 l9).2 = 0) : 4 ≤ a0 ∧ a0 ≤ 9 := by
  by_cases hr : rightZ a0 a1 a2 a3 a4 a5 a6 a7 = 0
  · exact (rightZ.zero hr).1
  · unfold cellsZ at h
    rw [if_pos hr] at h
    exact absurd h hr
theorem oLayout (a0 a1 a2 a3 a4 a5 a6 a7 : Int) (l8 : List Int) (l9 : List S38) (h8 : l8.length ≤ 300) (h9 : l9.length ≤ 300) : Ev (fun k => object_Layout.f k a0 a1 a2 a3 a4 a5 a6 a7 l8 l9) (layoutZ a0 a1 a2 a3 a4 a5 a6 a7 l8 l9) := by
  unfold object_Layout.f layoutZ
  refine Ev.bind (f := fun k (c : List Int × Int) => if c.2 = 0 then ((shapeFits k a0 a1 a2 a3 a4 a5 a6 a7 l8 l9).bind fun b => if b = true then (if l9.length ≤ 4096 ∧ (a0 = 5 → 0 < l8.length ∧ 0 ≤ rd l8 0 ∧ rd l8 0 ≤ 4096) then some (deadZ a0 (rd l8 0) l9) else none) else some 6) else some c.2) (oCells a0 a1 a2 a3 a4 a5 a6 a7 l8 l9 (by omega) (by omega)) ?_
  by_cases hc : (cellsZ a0 a1 a2 a3 a4 a5 a6 a7 l8 l9).2 = 0
  · simp only [if_pos hc]
    refine Ev.bind (f := fun _ b => if b = true then (if l9.length ≤ 4096 ∧ (a0 = 5 → 0 < l8.length ∧ 0 ≤ rd l8 0 ∧ rd l8 0 ≤ 4096) then some (deadZ a0 (rd l8 0) l9) else none) else some 6) (oShape a0 a1 a2 a3 a4 a5 a6 a7 l8 l9 (cells_kind hc) h8 h9) ?_
    by_cases hf : fitsZ a0 l8 l9 = true
    · simp only [if_pos hf]
      rw [if_pos ⟨by omega, fits_table hf⟩]
      exact evNow _
    · simp only [if_neg hf]
      exact evNow _
  · simp only [if_neg hc]
    exact evNow _
theorem rLayout (a0 a1 a2 a3 a4 a5 a6 a7 : Int) (l8 : List Int) (l9 : List S38) (h8 : l8.length ≤ 300) (h9 : l9.length ≤ 300) : Ev (fun k => heirloomref04_Layout.f k a0 a1 a2 a3 a4 a5 a6 a7 l8 l9) (layoutZ a0 a1 a2 a3 a4 a5 a6 a7 l8 l9) := by
  unfold heirloomref04_Layout.f layoutZ
  refine Ev.bind (f := fun k (c : List Int × Int) => if c.2 = 0 then ((heirloomref04_fits.f k a0 a1 a2 a3 a4 a5 a6 a7 l8 l9).bind fun b => if b = true then (heirloomref04_Layout.l0 k 0 a0 a1 a2 a3 a4 a5 a6 a7 l8 l9) else some 6) else some c.2) (rCells a0 a1 a2 a3 a4 a5 a6 a7 l8 l9 (by omega) (by omega)) ?_
  by_cases hc : (cellsZ a0 a1 a2 a3 a4 a5 a6 a7 l8 l9).2 = 0
  · simp only [if_pos hc]
    refine Ev.bind (f := fun k b => if b = true then (heirloomref04_Layout.l0 k 0 a0 a1 a2 a3 a4 a5 a6 a7 l8 l9) else some 6) (rFits a0 a1 a2 a3 a4 a5 a6 a7 l8 l9 h8 h9) ?_
    by_cases hf : fitsZ a0 l8 l9 = true
    · simp only [if_pos hf]
      have := rDead a0 a1 a2 a3 a4 a5 a6 a7 l8 l9 h9 (fits_table hf) l9.length 0 (by omega)
      have e : deadFrom a0 (rd l8 0) l9 0 l9.length = deadZ a0 (rd l8 0) l9 := by
        unfold deadFrom deadZ
        simp only [Nat.zero_add]
      rw [e] at this
      exact this
    · simp only [if_neg hf]
      exact evNow _
  · simp only [if_neg hc]
    exact evNow _
theorem ObjectLayouts (x0_0 x0_1 x0_2 x0_3 x0_4 x0_5 x0_6 x0_7 : Int) (w0 : ∀ a ∈ [x0_0, x0_1, x0_2, x0_3, x0_4, x0_5, x0_6, x0_7], (Lit.int .i64 a).wf = true) (l8 : List Int) (l9 : List S38) (hm8 : l8.length ≤ maxLen) (hw8 : ∀ n ∈ l8, (Lit.int .i64 n).wf = true) (hm9 : l9.length ≤ maxLen) (hw9 : ∀ v ∈ l9, (Lit.int .i64 v.f0).wf = true ∧ (Lit.int .i64 v.f1).wf = true) : ∃ k, heirloomlaw04_ObjectLayouts.f k x0_0 x0_1 x0_2 x0_3 x0_4 x0_5 x0_6 x0_7 l8 l9 = some true := by
  refine evRounds ?_
  by_cases hs : (l8.length : Int) ≤ 300 ∧ (l9.length : Int) ≤ 300
  · refine Ev.congr (f := fun k => (object_Layout.f k x0_0 x0_1 x0_2 x0_3 x0_4 x0_5 x0_6 x0_7 l8 l9).bind fun b => ((heirloomref04_Layout.f k x0_0 x0_1 x0_2 x0_3 x0_4 x0_5 x0_6 x0_7 l8 l9).bind fun c => (if b = c then some true else some false))) (fun k => ?_) ?_
    · unfold heirloomlaw04_ObjectLayouts.f heirloomlaw04_small.f
      rw [if_pos hs.1]
      simp only [Option.bind_some, decide_eq_true hs.2, if_true, heirloomlaw04_no.f, heirloomlaw04_alive.f]
    · refine Ev.bind (f := fun k b => ((heirloomref04_Layout.f k x0_0 x0_1 x0_2 x0_3 x0_4 x0_5 x0_6 x0_7 l8 l9).bind fun c => (if b = c then some true else some false))) (oLayout x0_0 x0_1 x0_2 x0_3 x0_4 x0_5 x0_6 x0_7 l8 l9 (by omega) (by omega)) ?_
      refine Ev.bind (f := fun _ c => (if layoutZ x0_0 x0_1 x0_2 x0_3 x0_4 x0_5 x0_6 x0_7 l8 l9 = c then some true else some false)) (rLayout x0_0 x0_1 x0_2 x0_3 x0_4 x0_5 x0_6 x0_7 l8 l9 (by omega) (by omega)) ?_
      simp only [if_true]
      exact evNow _
  · refine Ev.congr (f := fun _ => some true) (fun k => ?_) (evNow _)
    unfold heirloomlaw04_ObjectLayouts.f heirloomlaw04_small.f
    by_cases h8 : (l8.length : Int) ≤ 300
    · rw [if_pos h8]
      simp only [Option.bind_some, decide_eq_false (fun h9 => hs ⟨h8, h9⟩), Bool.false_eq_true, if_false, heirloomlaw04_alive.f]
    · rw [if_neg h8]
      simp only [Option.bind_some, Bool.false_eq_true, if_false, heirloomlaw04_alive.f]
end Go.Proofs.Ytepoalgoombpeaa.Pure
