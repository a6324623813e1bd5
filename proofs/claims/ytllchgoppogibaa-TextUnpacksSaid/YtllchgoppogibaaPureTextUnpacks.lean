/- TextUnpacks: any cells are told as the document's loops tell them. -/
import Derived.Test.YtllchgoppogibaaPrintx6
import Derived.Test.YtllchgoppogibaaUnpackLib
set_option linter.unusedVariables false
namespace Go.Proofs.Ytllchgoppogibaa.Pure
open Go.RowKit Go.Proofs.Ytllchgoppogibaa.Print Go.Proofs.YtllchgoppogibaaW.PrintWords Go.Proofs.YtllchgoppogibaaW.PrintLast

def told (X : List Int) (n : Int) (i : Nat) : ByteArray × Int := if (X.drop i).all (· == 0) = true then (strOfNums (X.take n.toNat), 0) else (⟨#[]⟩, 6)
theorem l2_ev (n : Int) (X : List Int) (h0 : 0 ≤ n) (hn : n ≤ X.length) (hX : X.length < 4611686018427387904) : ∀ (d i : Nat), i + d = X.length → Ev (fun k => heirloomref02_Unpack.l2 k n X (i : Int)) (told X n i) := by
  intro d
  induction d with
  | zero =>
    intro i hi
    have e : told X n i = (strOfNums (X.take n.toNat), 0) := by unfold told; rw [List.drop_of_length_le (by omega)]; rfl
    rw [e]
    refine Ev.step (f := fun _ => some _) (fun k => ?_) (Ev.now _)
    simp only [heirloomref02_Unpack.l2]
    rw [if_neg (by omega), if_pos h0, if_pos hn]
  | succ d ih =>
    intro i hi
    have hlt : i < X.length := by omega
    by_cases hz : X[i] = 0
    · have e : told X n i = told X n (i + 1) := by
        unfold told
        rw [List.drop_eq_getElem_cons hlt, List.all_cons, hz]
        rfl
      rw [e]
      refine Ev.step (fun k => ?_) (ih (i + 1) (by omega))
      simp only [heirloomref02_Unpack.l2]
      rw [if_pos (by omega), if_pos (by omega), rd_nat X i hlt, if_pos hz, wrap_succ i (by omega)]
    · have e : told X n i = (⟨#[]⟩, 6) := by
        unfold told
        rw [List.drop_eq_getElem_cons hlt, List.all_cons, if_neg (by simp [hz])]
      rw [e]
      refine Ev.step (f := fun _ => some _) (fun k => ?_) (Ev.now _)
      simp only [heirloomref02_Unpack.l2]
      rw [if_pos (by omega), if_pos (by omega), rd_nat X i hlt, if_neg hz]
theorem l1_step (l acc : List Int) (n i x : Int) (q : Nat) (r : ByteArray × Int) (hq : q < 8) (h0 : 0 ≤ x) (h1 : x < 18446744073709551616) (ha : acc.length < 140737488355328)
    (h : Ev (fun k => heirloomref02_Unpack.l1 k l n (acc ++ [x % 256]) i (x / 256) ((q + 1 : Nat) : Int)) r) : Ev (fun k => heirloomref02_Unpack.l1 k l n acc i x (q : Int)) r := by
  refine Ev.step (fun k => ?_) h
  simp only [heirloomref02_Unpack.l1]
  have e1 : Int.tmod x 256 % 256 = x % 256 := by rw [Int.tmod_eq_emod_of_nonneg h0]; omega
  have e2 : IntKind.u64.wrap (Int.tdiv x 256) = x / 256 := by rw [Int.tdiv_eq_ediv_of_nonneg h0, IntKind.wrap_u64]; omega
  rw [if_pos (by omega), if_pos ha, e1, e2, wrap_succ q (by omega)]
theorem l0_ev (l : List Int) (n : Int) (h0 : 0 ≤ n) (hn : n ≤ 8 * (l.length : Int)) (hl : l.length * 8 ≤ 140737488351232) : ∀ (d i : Nat), i + d = l.length → Ev (fun k => heirloomref02_Unpack.l0 k l n (TextMath.unb (l.take i)) (i : Int)) (told (TextMath.unb l) n n.toNat) := by
  intro d
  induction d with
  | zero =>
    intro i hi
    have e : l.take i = l := List.take_of_length_le (by omega)
    rw [e]
    have h := l2_ev n (TextMath.unb l) h0 (by rw [TextMath.unb_length]; omega) (by rw [TextMath.unb_length]; omega) ((TextMath.unb l).length - n.toNat) n.toNat (by rw [TextMath.unb_length]; omega)
    rw [show ((n.toNat : Nat) : Int) = n by omega] at h
    refine Ev.step (fun k => ?_) h
    simp only [heirloomref02_Unpack.l0]
    rw [if_neg (by omega)]
  | succ d ih =>
    intro i hi
    have hlt : i < l.length := by omega
    have h := ih (i + 1) (by omega)
    have hu : (TextMath.unb (l.take i)).length = 8 * i := by rw [TextMath.unb_length, List.length_take]; omega
    refine Ev.step (f := fun k => heirloomref02_Unpack.l1 k l n (TextMath.unb (l.take i)) (i : Int) (IntKind.u64.wrap (rd l (i : Int))) ((0 : Nat) : Int)) (fun k => ?_) ?_
    · simp only [heirloomref02_Unpack.l0]
      rw [if_pos (by omega), if_pos (by omega)]
      rfl
    · have hx : 0 ≤ IntKind.u64.wrap (rd l (i : Int)) ∧ IntKind.u64.wrap (rd l (i : Int)) < 18446744073709551616 := by rw [IntKind.wrap_u64]; omega
      rw [TextMath.unb_take_succ l i hlt] at h
      unfold TextMath.cellBytes TextMath.ub at h
      generalize IntKind.u64.wrap (rd l (i : Int)) = x at hx h ⊢
      obtain ⟨hx0, hx1⟩ := hx
      generalize TextMath.unb (l.take i) = A at hu h ⊢
      simp only [Nat.mul_zero, Nat.mul_one, Nat.reduceMul, Int.reducePow, Int.ediv_one] at h
      refine l1_step l _ n _ x 0 _ (by omega) (by omega) (by omega) (by omega) ?_
      refine l1_step l _ n _ _ 1 _ (by omega) (by omega) (by omega) (by simp; omega) ?_
      refine l1_step l _ n _ _ 2 _ (by omega) (by omega) (by omega) (by simp; omega) ?_
      refine l1_step l _ n _ _ 3 _ (by omega) (by omega) (by omega) (by simp; omega) ?_
      refine l1_step l _ n _ _ 4 _ (by omega) (by omega) (by omega) (by simp; omega) ?_
      refine l1_step l _ n _ _ 5 _ (by omega) (by omega) (by omega) (by simp; omega) ?_
      refine l1_step l _ n _ _ 6 _ (by omega) (by omega) (by omega) (by simp; omega) ?_
      refine l1_step l _ n _ _ 7 _ (by omega) (by omega) (by omega) (by simp; omega) ?_
      refine Ev.step (fun k => ?_) h
      simp only [heirloomref02_Unpack.l1]
      rw [if_neg (by omega), wrap_succ i (by omega)]
      congr 1
      simp only [List.append_assoc, List.cons_append, List.nil_append]
      rw [show x / 256 / 256 = x / 65536 by omega, show x / 65536 / 256 = x / 16777216 by omega, show x / 16777216 / 256 = x / 4294967296 by omega, show x / 4294967296 / 256 = x / 1099511627776 by omega, show x / 1099511627776 / 256 = x / 281474976710656 by omega, show x / 281474976710656 / 256 = x / 72057594037927936 by omega]
theorem runpack_ev (l : List Int) (n : Int) (hl : l.length * 8 ≤ 140737488351232) (h0 : -9223372036854775808 ≤ n) (h1 : n ≤ 9223372036854775807) : Ev (fun k => heirloomref02_Unpack.f k l n) (TextMath.unp l n) := by
  have e8 : wrap64 (8 * (l.length : Int)) = 8 * (l.length : Int) := by unfold wrap64; omega
  have bad : Ev (fun k => heirloomref02_Unpack.j0 k l n true) (⟨#[]⟩, 1) := by
    refine Ev.step (f := fun _ => some _) (fun k => ?_) (Ev.now _)
    simp only [heirloomref02_Unpack.j0, if_true]
  unfold heirloomref02_Unpack.f
  rw [e8]
  by_cases hneg : n < 0
  · simp only [if_pos hneg]
    have e : TextMath.unp l n = (⟨#[]⟩, 1) := by unfold TextMath.unp; rw [if_pos (.inl hneg)]
    rw [e]
    exact bad
  · simp only [if_neg hneg]
    by_cases hbig : n > 8 * (l.length : Int)
    · simp only [if_pos hbig]
      have e : TextMath.unp l n = (⟨#[]⟩, 1) := by unfold TextMath.unp; rw [if_pos (.inr (by omega))]
      rw [e]
      exact bad
    · simp only [if_neg hbig]
      refine Ev.bind (g := fun k => heirloomref02_Cells.f k n) (cells_ev n (by omega)) ?_
      have ec : cellsZ n = (n + 7) / 8 := by unfold cellsZ; split <;> omega
      rw [ec]
      by_cases hne : (n + 7) / 8 = (l.length : Int)
      · have hb : ((n + 7) / 8 != (l.length : Int)) = false := by simp [hne]
        simp only [hb]
        refine Ev.step (f := fun k => heirloomref02_Unpack.l0 k l n [] 0) (fun k => ?_) ?_
        · simp only [heirloomref02_Unpack.j0]
          rfl
        · have e : TextMath.unp l n = told (TextMath.unb l) n n.toNat := by unfold TextMath.unp told; rw [if_neg (by omega)]
          rw [e]
          exact l0_ev l n (by omega) (by omega) hl l.length 0 (by omega)
      · have hb : ((n + 7) / 8 != (l.length : Int)) = true := by simp [hne]
        simp only [hb]
        have e : TextMath.unp l n = (⟨#[]⟩, 1) := by unfold TextMath.unp; rw [if_pos (.inr hne)]
        rw [e]
        exact bad
theorem TextUnpacks : heirloomlaw02_TextUnpacks.Pure := by
  intro l n _ hl _ hn
  have h0 : -9223372036854775808 ≤ n ∧ n ≤ 9223372036854775807 := by
    have h := hn
    simp [Lit.wf] at h
    have e : IntKind.i64.min = -9223372036854775808 := by decide
    have e2 : IntKind.i64.max = 9223372036854775807 := by decide
    omega
  apply Ev.rounds
  unfold heirloomlaw02_TextUnpacks.f
  by_cases h4 : (l.length : Int) > 400
  · simp only [if_pos h4]
    exact Ev.bind alive_ev (Ev.now true)
  · have hlim : ([] : List Int).length + l.length < 17592186044416 := by simp; omega
    simp only [if_neg h4, Option.bind_some, if_pos hlim, List.nil_append, tunpack l n hl h0.1 h0.2]
    refine Ev.bind (g := fun k => heirloomref02_Unpack.f k l n) (runpack_ev l n hl h0.1 h0.2) ?_
    simp only [if_true, heirloomlaw02_no.f, Option.bind_some]
    refine Ev.bind (g := fun k => heirloomlaw02_Same.f k l l) (same_ev l l (by omega)) ?_
    simp only [decide_true, if_true]
    exact Ev.bind alive_ev (Ev.now true)
end Go.Proofs.Ytllchgoppogibaa.Pure
