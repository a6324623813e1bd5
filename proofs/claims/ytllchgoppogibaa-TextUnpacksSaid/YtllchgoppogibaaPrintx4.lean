/- PROVED: each Lean function of this text answers as the Go function of its name does. Conditions: none beyond what each theorem states. (Written by the session's own program xprint.py.) -/
import Derived.Test.YtllchgoppogibaaPrintx0
import Derived.Test.YtllchgoppogibaaPrintx1
namespace Go.Proofs.Ytllchgoppogibaa.Print
open Go.RowKit Go.Proofs.YtllchgoppogibaaW.PrintWords Go.Proofs.YtllchgoppogibaaW.PrintLast Go.Proofs.YtllchgoppogibaaW.PrintMore
attribute [local go_sem] max2_int min2_int max_two min_two max_three min_three max_four min_four   -- for this text's walks alone
set_option linter.unusedVariables false
set_option linter.unusedSimpArgs false

/-! ### heirloomlaw02_TextPlain: function 6 -/
mutual
def heirloomlaw02_TextPlain.j0 : Nat → ByteArray → Bool → Option (Bool)
  | 0, _, _ => none
  | k + 1, x3, x38 => if x38 = true then (some false) else (heirloomlaw02_TextPlain.l0 k x3 0)
def heirloomlaw02_TextPlain.l0 : Nat → ByteArray → Int → Option (Bool)
  | 0, _, _ => none
  | k + 1, x3, x4 => if x4 < (x3.size : Int) then (if 0 ≤ x4 then (if (bt x3 x4) < 32 then (some false) else (if (bt x3 x4) > 126 then (some false) else (if (bt x3 x4) = 34 then (if x4 > 0 then (if x4 < (wrap64 ((x3.size : Int) - 1)) then (some false) else (if (bt x3 x4) = 92 then (if 0 ≤ (wrap64 (x4 + 1)) then (if (wrap64 (x4 + 1)) < (x3.size : Int) then (if (bt x3 (wrap64 (x4 + 1))) = 120 then (heirloomlaw02_TextPlain.l0 k x3 (wrap64 (x4 + 1))) else (some false)) else (none)) else (none)) else (heirloomlaw02_TextPlain.l0 k x3 (wrap64 (x4 + 1))))) else (if (bt x3 x4) = 92 then (if 0 ≤ (wrap64 (x4 + 1)) then (if (wrap64 (x4 + 1)) < (x3.size : Int) then (if (bt x3 (wrap64 (x4 + 1))) = 120 then (heirloomlaw02_TextPlain.l0 k x3 (wrap64 (x4 + 1))) else (some false)) else (none)) else (none)) else (heirloomlaw02_TextPlain.l0 k x3 (wrap64 (x4 + 1))))) else (if (bt x3 x4) = 92 then (if 0 ≤ (wrap64 (x4 + 1)) then (if (wrap64 (x4 + 1)) < (x3.size : Int) then (if (bt x3 (wrap64 (x4 + 1))) = 120 then (heirloomlaw02_TextPlain.l0 k x3 (wrap64 (x4 + 1))) else (some false)) else (none)) else (none)) else (heirloomlaw02_TextPlain.l0 k x3 (wrap64 (x4 + 1))))))) else (none)) else ((heirloomlaw02_alive.f k).bind fun t159 => (some t159))
end
def heirloomlaw02_TextPlain.f (k : Nat) (a0 : ByteArray) : Option (Bool) := if (a0.size : Int) > 3000 then ((heirloomlaw02_alive.f k).bind fun t157 => (some t157)) else ((text_Quote.f k a0).bind fun t158 => (if (t158.size : Int) < (wrap64 ((a0.size : Int) + 2)) then (heirloomlaw02_TextPlain.j0 k t158 true) else (if (t158.size : Int) > (wrap64 ((wrap64 (4 * (a0.size : Int))) + 2)) then (heirloomlaw02_TextPlain.j0 k t158 true) else (if 0 < (t158.size : Int) then (if (bt t158 0) = 34 then (if 0 ≤ (wrap64 ((t158.size : Int) - 1)) then (if (wrap64 ((t158.size : Int) - 1)) < (t158.size : Int) then (heirloomlaw02_TextPlain.j0 k t158 ((bt t158 (wrap64 ((t158.size : Int) - 1))) != 34)) else (none)) else (none)) else (heirloomlaw02_TextPlain.j0 k t158 true)) else (none)))))
theorem heirloomlaw02_TextPlain.mono_l : ∀ k, (∀ y0 y1, LeO (heirloomlaw02_TextPlain.j0 k y0 y1) (heirloomlaw02_TextPlain.j0 (k + 1) y0 y1)) ∧ (∀ y0 y1, LeO (heirloomlaw02_TextPlain.l0 k y0 y1) (heirloomlaw02_TextPlain.l0 (k + 1) y0 y1))
  | 0 => ⟨fun _ _ r h => by simp [heirloomlaw02_TextPlain.j0] at h, fun _ _ r h => by simp [heirloomlaw02_TextPlain.l0] at h⟩
  | k + 1 => by
    obtain ⟨ih0, ih1⟩ := heirloomlaw02_TextPlain.mono_l k
    refine ⟨?_, ?_⟩
    · intro y0 y1
      unfold heirloomlaw02_TextPlain.j0
      repeat' first
      | (with_reducible exact ih0 _ _)
      | (with_reducible exact ih1 _ _)
      | (with_reducible exact heirloomlaw02_alive.mono _)
      | (with_reducible exact text_Quote.mono _ _)
      | (with_reducible exact LeO.refl _)
      | (with_reducible exact LeO.none _)
      | (with_reducible refine LeO.ite ?_ ?_)
      | (with_reducible refine LeO.bind ?_ (fun _ => ?_))
      | exact ih0 _ _
      | exact ih1 _ _
      | exact heirloomlaw02_alive.mono _
      | exact text_Quote.mono _ _
      | exact LeO.none _
      | refine LeO.ite ?_ ?_
      | refine LeO.bind ?_ (fun _ => ?_)
    · intro y0 y1
      unfold heirloomlaw02_TextPlain.l0
      repeat' first
      | (with_reducible exact ih0 _ _)
      | (with_reducible exact ih1 _ _)
      | (with_reducible exact heirloomlaw02_alive.mono _)
      | (with_reducible exact text_Quote.mono _ _)
      | (with_reducible exact LeO.refl _)
      | (with_reducible exact LeO.none _)
      | (with_reducible refine LeO.ite ?_ ?_)
      | (with_reducible refine LeO.bind ?_ (fun _ => ?_))
      | exact ih0 _ _
      | exact ih1 _ _
      | exact heirloomlaw02_alive.mono _
      | exact text_Quote.mono _ _
      | exact LeO.none _
      | refine LeO.ite ?_ ?_
      | refine LeO.bind ?_ (fun _ => ?_)
theorem heirloomlaw02_TextPlain.mono : ∀ a0 k, LeO (heirloomlaw02_TextPlain.f k a0) (heirloomlaw02_TextPlain.f (k + 1) a0) := by
  intro a0 k
  obtain ⟨ih0, ih1⟩ := heirloomlaw02_TextPlain.mono_l k
  unfold heirloomlaw02_TextPlain.f
  repeat' first
      | (with_reducible exact ih0 _ _)
      | (with_reducible exact ih1 _ _)
      | (with_reducible exact heirloomlaw02_alive.mono _)
      | (with_reducible exact text_Quote.mono _ _)
      | (with_reducible exact LeO.refl _)
      | (with_reducible exact LeO.none _)
      | (with_reducible refine LeO.ite ?_ ?_)
      | (with_reducible refine LeO.bind ?_ (fun _ => ?_))
      | exact ih0 _ _
      | exact ih1 _ _
      | exact heirloomlaw02_alive.mono _
      | exact text_Quote.mono _ _
      | exact LeO.none _
      | refine LeO.ite ?_ ?_
      | refine LeO.bind ?_ (fun _ => ?_)
set_option maxHeartbeats 8000000 in
set_option maxRecDepth 100000 in
theorem heirloomlaw02_TextPlain.calls (k : Nat) (a0 : ByteArray) (r : Bool) (w : World) (h : heirloomlaw02_TextPlain.f k a0 = some r) :
    Calls Try.prog 6 #[.string a0] w fun e w' => e = .returned (.bool r) ∧ Below w.heap.size w w' := by
  have HB := Aside0.mk (Below.refl w.heap.size w)
  have H : (if (a0.size : Int) > 3000 then ((heirloomlaw02_alive.f k).bind fun t157 => (some t157)) else ((text_Quote.f k a0).bind fun t158 => (if (t158.size : Int) < (wrap64 ((a0.size : Int) + 2)) then (heirloomlaw02_TextPlain.j0 k t158 true) else (if (t158.size : Int) > (wrap64 ((wrap64 (4 * (a0.size : Int))) + 2)) then (heirloomlaw02_TextPlain.j0 k t158 true) else (if 0 < (t158.size : Int) then (if (bt t158 0) = 34 then (if 0 ≤ (wrap64 ((t158.size : Int) - 1)) then (if (wrap64 ((t158.size : Int) - 1)) < (t158.size : Int) then (heirloomlaw02_TextPlain.j0 k t158 ((bt t158 (wrap64 ((t158.size : Int) - 1))) != 34)) else (none)) else (none)) else (heirloomlaw02_TextPlain.j0 k t158 true)) else (none)))))) = some r := h
  clear h
  by_cases c2 : (a0.size : Int) > 3000
  · rw [if_pos c2] at H
    have c2b0 : decide (3000 < (a0.size : Int)) = true := decide_eq_true c2
    have c2b1 : decide (3000 < a0.size) = true := decide_eq_true (by omega)
    clear c2
    replace H := Option.bind_eq_some_iff.mp H
    obtain ⟨t157, A30, H⟩ := H
    replace H : (some t157) = some r := H
    have A3 := Aside0.mk A30
    clear A30
    obtain rfl := Option.some.inj H
    go_enter Try.func6, Try.ntmps6
    go_wp2_with (first | ((with_reducible refine gate_callee (f := 11) rfl ?_); refine goesL_ (some 8) rfl rfl Try.func11 (by kernel_rfl) rfl #[] rfl (by (try simp only [List.map_toArray, List.map_cons, List.map_nil]); first | done | rfl | (simp only [List.length_drop, List.length_take]; rfl)) ?_; (with_reducible refine (heirloomlaw02_alive.calls k  t157 _ A3.out).mono ?_); rintro e w4 ⟨rfl, hb⟩; refine ⟨_, rfl, ?_⟩; have n0_ := Aside0.mk (below_step (by repeat (first | (with_reducible first | exact HB.out | apply below_alloc | apply pw_below_drewN | apply below_drew1) | exact HB.out)) hb); clear HB; have HB := n0_; clear n0_; (try clear hb); (try clear hb2); (try clear hk); (try clear hi)))
    go_ret
    exact ⟨by first | rfl | (simp [errW_none, errW_some] <;> rfl) | (simp [*, errW_none, errW_some] <;> rfl), by repeat (first | (with_reducible first | exact HB.out | apply below_alloc | apply pw_below_drewN | apply below_drew1) | exact HB.out)⟩
  · rw [if_neg c2] at H
    have c2b0 : decide (3000 < (a0.size : Int)) = false := decide_eq_false c2
    have c2b1 : decide (3000 < a0.size) = false := decide_eq_false (by omega)
    clear c2
    replace H := Option.bind_eq_some_iff.mp H
    obtain ⟨t158, A50, H⟩ := H
    replace H : (if (t158.size : Int) < (wrap64 ((a0.size : Int) + 2)) then (heirloomlaw02_TextPlain.j0 k t158 true) else (if (t158.size : Int) > (wrap64 ((wrap64 (4 * (a0.size : Int))) + 2)) then (heirloomlaw02_TextPlain.j0 k t158 true) else (if 0 < (t158.size : Int) then (if (bt t158 0) = 34 then (if 0 ≤ (wrap64 ((t158.size : Int) - 1)) then (if (wrap64 ((t158.size : Int) - 1)) < (t158.size : Int) then (heirloomlaw02_TextPlain.j0 k t158 ((bt t158 (wrap64 ((t158.size : Int) - 1))) != 34)) else (none)) else (none)) else (heirloomlaw02_TextPlain.j0 k t158 true)) else (none)))) = some r := H
    have A5 := Aside0.mk A50
    clear A50
    have HC6 := Aside0.mk H
    clear H
    go_enter Try.func6, Try.ntmps6
    go_upto_region 4 with (first | ((with_reducible refine gate_callee (f := 17) rfl ?_); refine goesL_ (some 10) rfl rfl Try.func17 (by kernel_rfl) rfl #[.string a0] rfl (by (try simp only [List.map_toArray, List.map_cons, List.map_nil]); first | done | rfl | (simp only [List.length_drop, List.length_take]; rfl)) ?_; (with_reducible refine (text_Quote.calls k a0 t158 _ A5.out).mono ?_); rintro e w7 ⟨rfl, hb⟩; refine ⟨_, rfl, ?_⟩; have n0_ := Aside0.mk (below_step (by repeat (first | (with_reducible first | exact HB.out | apply below_alloc | apply pw_below_drewN | apply below_drew1) | exact HB.out)) hb); clear HB; have HB := n0_; clear n0_; (try clear hb); (try clear hb2); (try clear hk); (try clear hi)))
    (try simp only [Act.put, List.setIfInBounds_toArray, List.set_cons_zero, List.set_cons_succ])
    go_cut [38] (fun v38 wc => ∃ (kq : Nat) (x38_5 : Bool), v38 = .bool x38_5 ∧ Aside0 (heirloomlaw02_TextPlain.j0 kq t158 x38_5 = some r) ∧ Aside0 (kq ≤ k) ∧ Aside0 (Below w.heap.size w wc))
    case first =>
      have H := HC6.out
      clear HC6
      by_cases c8 : (t158.size : Int) < (wrap64 ((a0.size : Int) + 2))
      · rw [if_pos c8] at H
        have c8b0 : decide ((t158.size : Int) < (wrap64 ((a0.size : Int) + 2))) = true := decide_eq_true c8
        clear c8
        (first | rw [c8b0] | (simp only [i64_w, i32_w]; rw [c8b0]) | skip)
        have H' := Aside0.mk H
        clear H
        go_wp2
        go_meet
        case rel => exact ⟨_, (true), (by first | rfl | (simp; done) | (simp [*]; done)), H', ⟨by first | omega | exact Nat.le_refl _⟩, ⟨by repeat (first | (with_reducible first | exact HB.out | apply below_alloc | apply pw_below_drewN | apply below_drew1) | exact HB.out)⟩⟩
      · rw [if_neg c8] at H
        have c8b0 : decide ((t158.size : Int) < (wrap64 ((a0.size : Int) + 2))) = false := decide_eq_false c8
        clear c8
        (first | rw [c8b0] | (simp only [i64_w, i32_w]; rw [c8b0]) | skip)
        by_cases c9 : (t158.size : Int) > (wrap64 ((wrap64 (4 * (a0.size : Int))) + 2))
        · rw [if_pos c9] at H
          have c9b0 : decide ((wrap64 ((wrap64 (4 * (a0.size : Int))) + 2)) < (t158.size : Int)) = true := decide_eq_true c9
          clear c9
          have H' := Aside0.mk H
          clear H
          go_wp2
          go_meet
          case rel => exact ⟨_, (true), (by first | rfl | (simp; done) | (simp [*]; done)), H', ⟨by first | omega | exact Nat.le_refl _⟩, ⟨by repeat (first | (with_reducible first | exact HB.out | apply below_alloc | apply pw_below_drewN | apply below_drew1) | exact HB.out)⟩⟩
        · rw [if_neg c9] at H
          have c9b0 : decide ((wrap64 ((wrap64 (4 * (a0.size : Int))) + 2)) < (t158.size : Int)) = false := decide_eq_false c9
          clear c9
          by_cases c10 : 0 < (t158.size : Int)
          · rw [if_pos c10] at H
            have c10b0 : decide (0 < (t158.size : Int)) = true := decide_eq_true c10
            have c10b1 : decide (0 < t158.size) = true := decide_eq_true (by omega)
            clear c10
            by_cases c12 : (bt t158 0) = 34
            · rw [if_pos c12] at H
              have c12b0 : ((bt t158 0) == 34) = true := beq_iff_eq.mpr c12
              have c12b1 : ((bt t158 0) != 34) = false := bne_eq_false_iff_eq.mpr c12
              clear c12
              obtain ⟨ji13, hji13⟩ : ∃ j_ : Int, (wrap64 ((t158.size : Int) - 1)) = j_ := ⟨_, rfl⟩
              replace H : (if 0 ≤ (ji13) then (if (ji13) < (t158.size : Int) then (heirloomlaw02_TextPlain.j0 k t158 ((bt t158 (ji13)) != 34)) else (none)) else (none)) = some r := by first | (rw [hji13] at H; exact H) | (simp only [hji13] at H ⊢; exact H)
              have hji13w : (IntKind.i64.wrap ((t158.size : Int) - 1)) = ji13 := (i64_w _).trans hji13
              by_cases c14 : 0 ≤ (ji13)
              · rw [if_pos c14] at H
                have c14b0 : decide (0 ≤ (ji13)) = true := decide_eq_true c14
                clear c14
                by_cases c15 : (ji13) < (t158.size : Int)
                · rw [if_pos c15] at H
                  have c15b0 : decide ((ji13) < (t158.size : Int)) = true := decide_eq_true c15
                  clear c15
                  have H' := Aside0.mk H
                  clear H
                  have p11 : 0 ≤ (0 : Int) := (by omega)
                  have q11 : 0 < t158.size := (by have : (0 : Int) < (t158.size : Int) := of_decide_eq_true (by first | (with_reducible assumption) | assumption); omega)
                  have hx11 : ∀ h : 0 < t158.size, ((t158[0]'h).toNat : Int) = bt t158 0 := bt_at t158 0
                  clear p11
                  have qi11 : (0 < (t158.size : Int)) = True := eq_true (of_decide_eq_true (by first | (with_reducible assumption) | assumption))
                  replace q11 := eq_true q11
                  have p16 : 0 ≤ ((ji13) : Int) := of_decide_eq_true (by first | (with_reducible assumption) | assumption)
                  have q16 : (ji13) < (t158.size : Int) := of_decide_eq_true (by first | (with_reducible assumption) | assumption)
                  have hx16 := bt_at t158 (ji13)
                  replace p16 := eq_true p16
                  replace q16 := eq_true q16
                  go_wp2
                  go_meet
                  case rel => exact ⟨_, (((bt t158 (ji13)) != 34)), (by first | rfl | (simp; done) | (simp only [← hji13] <;> (first | rfl | simp)) | (simp [*]; done)), H', ⟨by first | omega | exact Nat.le_refl _⟩, ⟨by repeat (first | (with_reducible first | exact HB.out | apply below_alloc | apply pw_below_drewN | apply below_drew1) | exact HB.out)⟩⟩
                · rw [if_neg c15] at H
                  exact absurd H (by simp)
              · rw [if_neg c14] at H
                exact absurd H (by simp)
            · rw [if_neg c12] at H
              have c12b0 : ((bt t158 0) == 34) = false := beq_eq_false_iff_ne.mpr c12
              have c12b1 : ((bt t158 0) != 34) = true := bne_iff_ne.mpr c12
              have H' := Aside0.mk H
              clear H
              have p11 : 0 ≤ (0 : Int) := (by omega)
              have q11 : 0 < t158.size := (by have : (0 : Int) < (t158.size : Int) := of_decide_eq_true (by first | (with_reducible assumption) | assumption); omega)
              have hx11 : ∀ h : 0 < t158.size, ((t158[0]'h).toNat : Int) = bt t158 0 := bt_at t158 0
              clear p11
              have qi11 : (0 < (t158.size : Int)) = True := eq_true (of_decide_eq_true (by first | (with_reducible assumption) | assumption))
              replace q11 := eq_true q11
              go_wp2
              go_meet
              case rel => exact ⟨_, (true), (by first | rfl | (simp; done) | (simp [*]; done)), H', ⟨by first | omega | exact Nat.le_refl _⟩, ⟨by repeat (first | (with_reducible first | exact HB.out | apply below_alloc | apply pw_below_drewN | apply below_drew1) | exact HB.out)⟩⟩
          · rw [if_neg c10] at H
            exact absurd H (by simp)
    case rest =>
      clear HC6
      try clear c1
      try clear p1
      try clear q1
      try clear hx1
      try clear qi1
      try clear c2
      try clear c2b0
      try clear c2b1
      try clear p2
      try clear c6
      try clear p6
      try clear c8
      try clear c8b0
      try clear c9
      try clear c9b0
      try clear c10
      try clear c10b0
      try clear c10b1
      try clear c11
      try clear p11
      try clear q11
      try clear hx11
      try clear qi11
      try clear c12
      try clear c12b0
      try clear c12b1
      try clear c14
      try clear c14b0
      try clear c15
      try clear c15b0
      try clear p16
      try clear q16
      try clear hx16
      try clear p11
      try clear p16
      try clear q11
      try clear q16
      obtain ⟨kq, x38_5, rfl, HA, HJ5, HB⟩ := hcut
      cases kq with
      | zero => exact absurd HA.out (by simp [heirloomlaw02_TextPlain.j0])
      | succ kj5 =>
        have H := HA.out
        clear HA
        simp only [heirloomlaw02_TextPlain.j0] at H
        by_cases c17 : x38_5 = true
        · subst c17
          have H1 : (some false) = some r := by rw [if_pos rfl] at H; exact H
          clear H
          have H := H1
          clear H1
          obtain rfl := Option.some.inj H
          go_wp2
          go_ret
          exact ⟨by first | rfl | (simp [errW_none, errW_some] <;> rfl) | (simp [*, errW_none, errW_some] <;> rfl), by repeat (first | (with_reducible first | exact HB.out | apply below_alloc | apply pw_below_drewN | apply below_drew1) | exact HB.out)⟩
        · replace c17 := Bool.eq_false_iff.mpr c17
          subst c17
          have H1 : (heirloomlaw02_TextPlain.l0 kj5 t158 0) = some r := by rw [if_neg (show ¬ (false = true) by decide)] at H; exact H
          clear H
          have H := H1
          clear H1
          have H' := Aside0.mk H
          clear H
          go_wp2
          go_loopg [4] kj5 (fun kq v4 w' => ∃ (x4_2 : Int), v4 = .int .i64 x4_2 ∧ Aside0 (heirloomlaw02_TextPlain.l0 kq t158 x4_2 = some r) ∧ Aside0 (kq ≤ kj5) ∧ Aside0 (Below w.heap.size w w'))
          case atStart => exact ⟨(0), (by first | rfl | (simp; done) | (simp [*]; done)), H', ⟨Nat.le_refl _⟩, ⟨by repeat (first | (with_reducible first | exact HB.out | apply below_alloc | apply pw_below_drewN | apply below_drew1) | exact HB.out)⟩⟩
          case round =>
            clear H'
            try clear c1
            try clear p1
            try clear q1
            try clear hx1
            try clear qi1
            try clear c2
            try clear c2b0
            try clear c2b1
            try clear p2
            try clear c6
            try clear p6
            try clear c8
            try clear c8b0
            try clear c9
            try clear c9b0
            try clear c10
            try clear c10b0
            try clear c10b1
            try clear c11
            try clear p11
            try clear q11
            try clear hx11
            try clear qi11
            try clear c12
            try clear c12b0
            try clear c12b1
            try clear c14
            try clear c14b0
            try clear c15
            try clear c15b0
            try clear p16
            try clear q16
            try clear hx16
            try clear c17
            try clear p1
            try clear p11
            try clear p16
            try clear p2
            try clear p6
            try clear q1
            try clear q11
            try clear q16
            obtain ⟨x4_2, rfl, HA, HK2, HB⟩ := hrel
            cases gk with
            | zero => exact absurd HA.out (by simp [heirloomlaw02_TextPlain.l0])
            | succ k2 =>
              have H := HA.out
              clear HA
              simp only [heirloomlaw02_TextPlain.l0] at H
              by_cases c18 : x4_2 < (t158.size : Int)
              · rw [if_pos c18] at H
                have c18b0 : decide (x4_2 < (t158.size : Int)) = true := decide_eq_true c18
                clear c18
                by_cases c19 : 0 ≤ x4_2
                · rw [if_pos c19] at H
                  have c19b0 : decide (0 ≤ x4_2) = true := decide_eq_true c19
                  clear c19
                  by_cases c21 : (bt t158 x4_2) < 32
                  · rw [if_pos c21] at H
                    have c21b0 : decide ((bt t158 x4_2) < 32) = true := decide_eq_true c21
                    clear c21
                    obtain rfl := Option.some.inj H
                    have p20 : 0 ≤ (x4_2 : Int) := of_decide_eq_true (by first | (with_reducible assumption) | assumption)
                    have q20 : x4_2 < (t158.size : Int) := of_decide_eq_true (by first | (with_reducible assumption) | assumption)
                    have hx20 := bt_at t158 x4_2
                    replace p20 := eq_true p20
                    replace q20 := eq_true q20
                    go_wp2
                    go_ret
                    exact ⟨by first | rfl | (simp [errW_none, errW_some] <;> rfl) | (simp [*, errW_none, errW_some] <;> rfl), by repeat (first | (with_reducible first | exact HB.out | apply below_alloc | apply pw_below_drewN | apply below_drew1) | exact HB.out)⟩
                  · rw [if_neg c21] at H
                    have c21b0 : decide ((bt t158 x4_2) < 32) = false := decide_eq_false c21
                    clear c21
                    by_cases c23 : (bt t158 x4_2) > 126
                    · rw [if_pos c23] at H
                      have c23b0 : decide (126 < (bt t158 x4_2)) = true := decide_eq_true c23
                      clear c23
                      obtain rfl := Option.some.inj H
                      have p20 : 0 ≤ (x4_2 : Int) := of_decide_eq_true (by first | (with_reducible assumption) | assumption)
                      have q20 : x4_2 < (t158.size : Int) := of_decide_eq_true (by first | (with_reducible assumption) | assumption)
                      have hx20 := bt_at t158 x4_2
                      replace p20 := eq_true p20
                      replace q20 := eq_true q20
                      have p22 : 0 ≤ (x4_2 : Int) := of_decide_eq_true (by first | (with_reducible assumption) | assumption)
                      have q22 : x4_2 < (t158.size : Int) := of_decide_eq_true (by first | (with_reducible assumption) | assumption)
                      have hx22 := bt_at t158 x4_2
                      replace p22 := eq_true p22
                      replace q22 := eq_true q22
                      go_wp2
                      go_ret
                      exact ⟨by first | rfl | (simp [errW_none, errW_some] <;> rfl) | (simp [*, errW_none, errW_some] <;> rfl), by repeat (first | (with_reducible first | exact HB.out | apply below_alloc | apply pw_below_drewN | apply below_drew1) | exact HB.out)⟩
                    · rw [if_neg c23] at H
                      have c23b0 : decide (126 < (bt t158 x4_2)) = false := decide_eq_false c23
                      clear c23
                      by_cases c25 : (bt t158 x4_2) = 34
                      · rw [if_pos c25] at H
                        have c25b0 : ((bt t158 x4_2) == 34) = true := beq_iff_eq.mpr c25
                        have c25b1 : ((bt t158 x4_2) != 34) = false := bne_eq_false_iff_eq.mpr c25
                        clear c25
                        by_cases c26 : x4_2 > 0
                        · rw [if_pos c26] at H
                          have c26b0 : decide (0 < x4_2) = true := decide_eq_true c26
                          clear c26
                          by_cases c27 : x4_2 < (wrap64 ((t158.size : Int) - 1))
                          · rw [if_pos c27] at H
                            have c27b0 : decide (x4_2 < (wrap64 ((t158.size : Int) - 1))) = true := decide_eq_true c27
                            clear c27
                            obtain rfl := Option.some.inj H
                            have p20 : 0 ≤ (x4_2 : Int) := of_decide_eq_true (by first | (with_reducible assumption) | assumption)
                            have q20 : x4_2 < (t158.size : Int) := of_decide_eq_true (by first | (with_reducible assumption) | assumption)
                            have hx20 := bt_at t158 x4_2
                            replace p20 := eq_true p20
                            replace q20 := eq_true q20
                            have p22 : 0 ≤ (x4_2 : Int) := of_decide_eq_true (by first | (with_reducible assumption) | assumption)
                            have q22 : x4_2 < (t158.size : Int) := of_decide_eq_true (by first | (with_reducible assumption) | assumption)
                            have hx22 := bt_at t158 x4_2
                            replace p22 := eq_true p22
                            replace q22 := eq_true q22
                            have p24 : 0 ≤ (x4_2 : Int) := of_decide_eq_true (by first | (with_reducible assumption) | assumption)
                            have q24 : x4_2 < (t158.size : Int) := of_decide_eq_true (by first | (with_reducible assumption) | assumption)
                            have hx24 := bt_at t158 x4_2
                            replace p24 := eq_true p24
                            replace q24 := eq_true q24
                            go_wp2
                            go_ret
                            exact ⟨by first | rfl | (simp [errW_none, errW_some] <;> rfl) | (simp [*, errW_none, errW_some] <;> rfl), by repeat (first | (with_reducible first | exact HB.out | apply below_alloc | apply pw_below_drewN | apply below_drew1) | exact HB.out)⟩
                          · rw [if_neg c27] at H
                            have c27b0 : decide (x4_2 < (wrap64 ((t158.size : Int) - 1))) = false := decide_eq_false c27
                            clear c27
                            by_cases c29 : (bt t158 x4_2) = 92
                            · rw [if_pos c29] at H
                              have c29b0 : ((bt t158 x4_2) == 92) = true := beq_iff_eq.mpr c29
                              have c29b1 : ((bt t158 x4_2) != 92) = false := bne_eq_false_iff_eq.mpr c29
                              clear c29
                              obtain ⟨ji30, hji30⟩ : ∃ j_ : Int, (wrap64 (x4_2 + 1)) = j_ := ⟨_, rfl⟩
                              replace H : (if 0 ≤ (ji30) then (if (ji30) < (t158.size : Int) then (if (bt t158 (ji30)) = 120 then (heirloomlaw02_TextPlain.l0 k2 t158 ji30) else (some false)) else (none)) else (none)) = some r := by first | (rw [hji30] at H; exact H) | (simp only [hji30] at H ⊢; exact H)
                              have hji30w : (IntKind.i64.wrap (x4_2 + 1)) = ji30 := (i64_w _).trans hji30
                              by_cases c31 : 0 ≤ (ji30)
                              · rw [if_pos c31] at H
                                have c31b0 : decide (0 ≤ (ji30)) = true := decide_eq_true c31
                                clear c31
                                by_cases c32 : (ji30) < (t158.size : Int)
                                · rw [if_pos c32] at H
                                  have c32b0 : decide ((ji30) < (t158.size : Int)) = true := decide_eq_true c32
                                  clear c32
                                  by_cases c34 : (bt t158 (ji30)) = 120
                                  · rw [if_pos c34] at H
                                    have c34b0 : ((bt t158 (ji30)) == 120) = true := beq_iff_eq.mpr c34
                                    have c34b1 : ((bt t158 (ji30)) != 120) = false := bne_eq_false_iff_eq.mpr c34
                                    clear c34
                                    have H' := Aside0.mk H
                                    clear H
                                    have p20 : 0 ≤ (x4_2 : Int) := of_decide_eq_true (by first | (with_reducible assumption) | assumption)
                                    have q20 : x4_2 < (t158.size : Int) := of_decide_eq_true (by first | (with_reducible assumption) | assumption)
                                    have hx20 := bt_at t158 x4_2
                                    replace p20 := eq_true p20
                                    replace q20 := eq_true q20
                                    have p22 : 0 ≤ (x4_2 : Int) := of_decide_eq_true (by first | (with_reducible assumption) | assumption)
                                    have q22 : x4_2 < (t158.size : Int) := of_decide_eq_true (by first | (with_reducible assumption) | assumption)
                                    have hx22 := bt_at t158 x4_2
                                    replace p22 := eq_true p22
                                    replace q22 := eq_true q22
                                    have p24 : 0 ≤ (x4_2 : Int) := of_decide_eq_true (by first | (with_reducible assumption) | assumption)
                                    have q24 : x4_2 < (t158.size : Int) := of_decide_eq_true (by first | (with_reducible assumption) | assumption)
                                    have hx24 := bt_at t158 x4_2
                                    replace p24 := eq_true p24
                                    replace q24 := eq_true q24
                                    have p28 : 0 ≤ (x4_2 : Int) := of_decide_eq_true (by first | (with_reducible assumption) | assumption)
                                    have q28 : x4_2 < (t158.size : Int) := of_decide_eq_true (by first | (with_reducible assumption) | assumption)
                                    have hx28 := bt_at t158 x4_2
                                    replace p28 := eq_true p28
                                    replace q28 := eq_true q28
                                    have p33 : 0 ≤ ((ji30) : Int) := of_decide_eq_true (by first | (with_reducible assumption) | assumption)
                                    have q33 : (ji30) < (t158.size : Int) := of_decide_eq_true (by first | (with_reducible assumption) | assumption)
                                    have hx33 := bt_at t158 (ji30)
                                    replace p33 := eq_true p33
                                    replace q33 := eq_true q33
                                    go_wp2
                                    go_roundg k2
                                    case measure => have := HJ5.out; have := HK2.out; omega
                                    case rel => exact ⟨(ji30), (by first | rfl | (simp; done) | (simp only [← hji30] <;> (first | rfl | simp)) | (simp [*]; done)), H', ⟨by have := HJ5.out; have := HK2.out; omega⟩, ⟨by repeat (first | (with_reducible first | exact HB.out | apply below_alloc | apply pw_below_drewN | apply below_drew1) | exact HB.out)⟩⟩
                                  · rw [if_neg c34] at H
                                    have c34b0 : ((bt t158 (ji30)) == 120) = false := beq_eq_false_iff_ne.mpr c34
                                    have c34b1 : ((bt t158 (ji30)) != 120) = true := bne_iff_ne.mpr c34
                                    obtain rfl := Option.some.inj H
                                    have p20 : 0 ≤ (x4_2 : Int) := of_decide_eq_true (by first | (with_reducible assumption) | assumption)
                                    have q20 : x4_2 < (t158.size : Int) := of_decide_eq_true (by first | (with_reducible assumption) | assumption)
                                    have hx20 := bt_at t158 x4_2
                                    replace p20 := eq_true p20
                                    replace q20 := eq_true q20
                                    have p22 : 0 ≤ (x4_2 : Int) := of_decide_eq_true (by first | (with_reducible assumption) | assumption)
                                    have q22 : x4_2 < (t158.size : Int) := of_decide_eq_true (by first | (with_reducible assumption) | assumption)
                                    have hx22 := bt_at t158 x4_2
                                    replace p22 := eq_true p22
                                    replace q22 := eq_true q22
                                    have p24 : 0 ≤ (x4_2 : Int) := of_decide_eq_true (by first | (with_reducible assumption) | assumption)
                                    have q24 : x4_2 < (t158.size : Int) := of_decide_eq_true (by first | (with_reducible assumption) | assumption)
                                    have hx24 := bt_at t158 x4_2
                                    replace p24 := eq_true p24
                                    replace q24 := eq_true q24
                                    have p28 : 0 ≤ (x4_2 : Int) := of_decide_eq_true (by first | (with_reducible assumption) | assumption)
                                    have q28 : x4_2 < (t158.size : Int) := of_decide_eq_true (by first | (with_reducible assumption) | assumption)
                                    have hx28 := bt_at t158 x4_2
                                    replace p28 := eq_true p28
                                    replace q28 := eq_true q28
                                    have p33 : 0 ≤ ((ji30) : Int) := of_decide_eq_true (by first | (with_reducible assumption) | assumption)
                                    have q33 : (ji30) < (t158.size : Int) := of_decide_eq_true (by first | (with_reducible assumption) | assumption)
                                    have hx33 := bt_at t158 (ji30)
                                    replace p33 := eq_true p33
                                    replace q33 := eq_true q33
                                    go_wp2
                                    go_ret
                                    exact ⟨by first | rfl | (simp [errW_none, errW_some] <;> rfl) | (simp only [← hji30]; first | rfl | (simp [errW_none, errW_some] <;> rfl)) | (simp [*, errW_none, errW_some] <;> rfl), by repeat (first | (with_reducible first | exact HB.out | apply below_alloc | apply pw_below_drewN | apply below_drew1) | exact HB.out)⟩
                                · rw [if_neg c32] at H
                                  exact absurd H (by simp)
                              · rw [if_neg c31] at H
                                exact absurd H (by simp)
                            · rw [if_neg c29] at H
                              have c29b0 : ((bt t158 x4_2) == 92) = false := beq_eq_false_iff_ne.mpr c29
                              have c29b1 : ((bt t158 x4_2) != 92) = true := bne_iff_ne.mpr c29
                              have H' := Aside0.mk H
                              clear H
                              have p20 : 0 ≤ (x4_2 : Int) := of_decide_eq_true (by first | (with_reducible assumption) | assumption)
                              have q20 : x4_2 < (t158.size : Int) := of_decide_eq_true (by first | (with_reducible assumption) | assumption)
                              have hx20 := bt_at t158 x4_2
                              replace p20 := eq_true p20
                              replace q20 := eq_true q20
                              have p22 : 0 ≤ (x4_2 : Int) := of_decide_eq_true (by first | (with_reducible assumption) | assumption)
                              have q22 : x4_2 < (t158.size : Int) := of_decide_eq_true (by first | (with_reducible assumption) | assumption)
                              have hx22 := bt_at t158 x4_2
                              replace p22 := eq_true p22
                              replace q22 := eq_true q22
                              have p24 : 0 ≤ (x4_2 : Int) := of_decide_eq_true (by first | (with_reducible assumption) | assumption)
                              have q24 : x4_2 < (t158.size : Int) := of_decide_eq_true (by first | (with_reducible assumption) | assumption)
                              have hx24 := bt_at t158 x4_2
                              replace p24 := eq_true p24
                              replace q24 := eq_true q24
                              have p28 : 0 ≤ (x4_2 : Int) := of_decide_eq_true (by first | (with_reducible assumption) | assumption)
                              have q28 : x4_2 < (t158.size : Int) := of_decide_eq_true (by first | (with_reducible assumption) | assumption)
                              have hx28 := bt_at t158 x4_2
                              replace p28 := eq_true p28
                              replace q28 := eq_true q28
                              go_wp2
                              go_roundg k2
                              case measure => have := HJ5.out; have := HK2.out; omega
                              case rel => exact ⟨(wrap64 (x4_2 + 1)), (by first | rfl | (simp; done) | (simp [*]; done)), H', ⟨by have := HJ5.out; have := HK2.out; omega⟩, ⟨by repeat (first | (with_reducible first | exact HB.out | apply below_alloc | apply pw_below_drewN | apply below_drew1) | exact HB.out)⟩⟩
                        · rw [if_neg c26] at H
                          have c26b0 : decide (0 < x4_2) = false := decide_eq_false c26
                          clear c26
                          by_cases c36 : (bt t158 x4_2) = 92
                          · rw [if_pos c36] at H
                            have c36b0 : ((bt t158 x4_2) == 92) = true := beq_iff_eq.mpr c36
                            have c36b1 : ((bt t158 x4_2) != 92) = false := bne_eq_false_iff_eq.mpr c36
                            clear c36
                            obtain ⟨ji37, hji37⟩ : ∃ j_ : Int, (wrap64 (x4_2 + 1)) = j_ := ⟨_, rfl⟩
                            replace H : (if 0 ≤ (ji37) then (if (ji37) < (t158.size : Int) then (if (bt t158 (ji37)) = 120 then (heirloomlaw02_TextPlain.l0 k2 t158 ji37) else (some false)) else (none)) else (none)) = some r := by first | (rw [hji37] at H; exact H) | (simp only [hji37] at H ⊢; exact H)
                            have hji37w : (IntKind.i64.wrap (x4_2 + 1)) = ji37 := (i64_w _).trans hji37
                            by_cases c38 : 0 ≤ (ji37)
                            · rw [if_pos c38] at H
                              have c38b0 : decide (0 ≤ (ji37)) = true := decide_eq_true c38
                              clear c38
                              by_cases c39 : (ji37) < (t158.size : Int)
                              · rw [if_pos c39] at H
                                have c39b0 : decide ((ji37) < (t158.size : Int)) = true := decide_eq_true c39
                                clear c39
                                by_cases c41 : (bt t158 (ji37)) = 120
                                · rw [if_pos c41] at H
                                  have c41b0 : ((bt t158 (ji37)) == 120) = true := beq_iff_eq.mpr c41
                                  have c41b1 : ((bt t158 (ji37)) != 120) = false := bne_eq_false_iff_eq.mpr c41
                                  clear c41
                                  have H' := Aside0.mk H
                                  clear H
                                  have p20 : 0 ≤ (x4_2 : Int) := of_decide_eq_true (by first | (with_reducible assumption) | assumption)
                                  have q20 : x4_2 < (t158.size : Int) := of_decide_eq_true (by first | (with_reducible assumption) | assumption)
                                  have hx20 := bt_at t158 x4_2
                                  replace p20 := eq_true p20
                                  replace q20 := eq_true q20
                                  have p22 : 0 ≤ (x4_2 : Int) := of_decide_eq_true (by first | (with_reducible assumption) | assumption)
                                  have q22 : x4_2 < (t158.size : Int) := of_decide_eq_true (by first | (with_reducible assumption) | assumption)
                                  have hx22 := bt_at t158 x4_2
                                  replace p22 := eq_true p22
                                  replace q22 := eq_true q22
                                  have p24 : 0 ≤ (x4_2 : Int) := of_decide_eq_true (by first | (with_reducible assumption) | assumption)
                                  have q24 : x4_2 < (t158.size : Int) := of_decide_eq_true (by first | (with_reducible assumption) | assumption)
                                  have hx24 := bt_at t158 x4_2
                                  replace p24 := eq_true p24
                                  replace q24 := eq_true q24
                                  have p35 : 0 ≤ (x4_2 : Int) := of_decide_eq_true (by first | (with_reducible assumption) | assumption)
                                  have q35 : x4_2 < (t158.size : Int) := of_decide_eq_true (by first | (with_reducible assumption) | assumption)
                                  have hx35 := bt_at t158 x4_2
                                  replace p35 := eq_true p35
                                  replace q35 := eq_true q35
                                  have p40 : 0 ≤ ((ji37) : Int) := of_decide_eq_true (by first | (with_reducible assumption) | assumption)
                                  have q40 : (ji37) < (t158.size : Int) := of_decide_eq_true (by first | (with_reducible assumption) | assumption)
                                  have hx40 := bt_at t158 (ji37)
                                  replace p40 := eq_true p40
                                  replace q40 := eq_true q40
                                  go_wp2
                                  go_roundg k2
                                  case measure => have := HJ5.out; have := HK2.out; omega
                                  case rel => exact ⟨(ji37), (by first | rfl | (simp; done) | (simp only [← hji37] <;> (first | rfl | simp)) | (simp [*]; done)), H', ⟨by have := HJ5.out; have := HK2.out; omega⟩, ⟨by repeat (first | (with_reducible first | exact HB.out | apply below_alloc | apply pw_below_drewN | apply below_drew1) | exact HB.out)⟩⟩
                                · rw [if_neg c41] at H
                                  have c41b0 : ((bt t158 (ji37)) == 120) = false := beq_eq_false_iff_ne.mpr c41
                                  have c41b1 : ((bt t158 (ji37)) != 120) = true := bne_iff_ne.mpr c41
                                  obtain rfl := Option.some.inj H
                                  have p20 : 0 ≤ (x4_2 : Int) := of_decide_eq_true (by first | (with_reducible assumption) | assumption)
                                  have q20 : x4_2 < (t158.size : Int) := of_decide_eq_true (by first | (with_reducible assumption) | assumption)
                                  have hx20 := bt_at t158 x4_2
                                  replace p20 := eq_true p20
                                  replace q20 := eq_true q20
                                  have p22 : 0 ≤ (x4_2 : Int) := of_decide_eq_true (by first | (with_reducible assumption) | assumption)
                                  have q22 : x4_2 < (t158.size : Int) := of_decide_eq_true (by first | (with_reducible assumption) | assumption)
                                  have hx22 := bt_at t158 x4_2
                                  replace p22 := eq_true p22
                                  replace q22 := eq_true q22
                                  have p24 : 0 ≤ (x4_2 : Int) := of_decide_eq_true (by first | (with_reducible assumption) | assumption)
                                  have q24 : x4_2 < (t158.size : Int) := of_decide_eq_true (by first | (with_reducible assumption) | assumption)
                                  have hx24 := bt_at t158 x4_2
                                  replace p24 := eq_true p24
                                  replace q24 := eq_true q24
                                  have p35 : 0 ≤ (x4_2 : Int) := of_decide_eq_true (by first | (with_reducible assumption) | assumption)
                                  have q35 : x4_2 < (t158.size : Int) := of_decide_eq_true (by first | (with_reducible assumption) | assumption)
                                  have hx35 := bt_at t158 x4_2
                                  replace p35 := eq_true p35
                                  replace q35 := eq_true q35
                                  have p40 : 0 ≤ ((ji37) : Int) := of_decide_eq_true (by first | (with_reducible assumption) | assumption)
                                  have q40 : (ji37) < (t158.size : Int) := of_decide_eq_true (by first | (with_reducible assumption) | assumption)
                                  have hx40 := bt_at t158 (ji37)
                                  replace p40 := eq_true p40
                                  replace q40 := eq_true q40
                                  go_wp2
                                  go_ret
                                  exact ⟨by first | rfl | (simp [errW_none, errW_some] <;> rfl) | (simp only [← hji37]; first | rfl | (simp [errW_none, errW_some] <;> rfl)) | (simp [*, errW_none, errW_some] <;> rfl), by repeat (first | (with_reducible first | exact HB.out | apply below_alloc | apply pw_below_drewN | apply below_drew1) | exact HB.out)⟩
                              · rw [if_neg c39] at H
                                exact absurd H (by simp)
                            · rw [if_neg c38] at H
                              exact absurd H (by simp)
                          · rw [if_neg c36] at H
                            have c36b0 : ((bt t158 x4_2) == 92) = false := beq_eq_false_iff_ne.mpr c36
                            have c36b1 : ((bt t158 x4_2) != 92) = true := bne_iff_ne.mpr c36
                            have H' := Aside0.mk H
                            clear H
                            have p20 : 0 ≤ (x4_2 : Int) := of_decide_eq_true (by first | (with_reducible assumption) | assumption)
                            have q20 : x4_2 < (t158.size : Int) := of_decide_eq_true (by first | (with_reducible assumption) | assumption)
                            have hx20 := bt_at t158 x4_2
                            replace p20 := eq_true p20
                            replace q20 := eq_true q20
                            have p22 : 0 ≤ (x4_2 : Int) := of_decide_eq_true (by first | (with_reducible assumption) | assumption)
                            have q22 : x4_2 < (t158.size : Int) := of_decide_eq_true (by first | (with_reducible assumption) | assumption)
                            have hx22 := bt_at t158 x4_2
                            replace p22 := eq_true p22
                            replace q22 := eq_true q22
                            have p24 : 0 ≤ (x4_2 : Int) := of_decide_eq_true (by first | (with_reducible assumption) | assumption)
                            have q24 : x4_2 < (t158.size : Int) := of_decide_eq_true (by first | (with_reducible assumption) | assumption)
                            have hx24 := bt_at t158 x4_2
                            replace p24 := eq_true p24
                            replace q24 := eq_true q24
                            have p35 : 0 ≤ (x4_2 : Int) := of_decide_eq_true (by first | (with_reducible assumption) | assumption)
                            have q35 : x4_2 < (t158.size : Int) := of_decide_eq_true (by first | (with_reducible assumption) | assumption)
                            have hx35 := bt_at t158 x4_2
                            replace p35 := eq_true p35
                            replace q35 := eq_true q35
                            go_wp2
                            go_roundg k2
                            case measure => have := HJ5.out; have := HK2.out; omega
                            case rel => exact ⟨(wrap64 (x4_2 + 1)), (by first | rfl | (simp; done) | (simp [*]; done)), H', ⟨by have := HJ5.out; have := HK2.out; omega⟩, ⟨by repeat (first | (with_reducible first | exact HB.out | apply below_alloc | apply pw_below_drewN | apply below_drew1) | exact HB.out)⟩⟩
                      · rw [if_neg c25] at H
                        have c25b0 : ((bt t158 x4_2) == 34) = false := beq_eq_false_iff_ne.mpr c25
                        have c25b1 : ((bt t158 x4_2) != 34) = true := bne_iff_ne.mpr c25
                        by_cases c43 : (bt t158 x4_2) = 92
                        · rw [if_pos c43] at H
                          have c43b0 : ((bt t158 x4_2) == 92) = true := beq_iff_eq.mpr c43
                          have c43b1 : ((bt t158 x4_2) != 92) = false := bne_eq_false_iff_eq.mpr c43
                          clear c43
                          obtain ⟨ji44, hji44⟩ : ∃ j_ : Int, (wrap64 (x4_2 + 1)) = j_ := ⟨_, rfl⟩
                          replace H : (if 0 ≤ (ji44) then (if (ji44) < (t158.size : Int) then (if (bt t158 (ji44)) = 120 then (heirloomlaw02_TextPlain.l0 k2 t158 ji44) else (some false)) else (none)) else (none)) = some r := by first | (rw [hji44] at H; exact H) | (simp only [hji44] at H ⊢; exact H)
                          have hji44w : (IntKind.i64.wrap (x4_2 + 1)) = ji44 := (i64_w _).trans hji44
                          by_cases c45 : 0 ≤ (ji44)
                          · rw [if_pos c45] at H
                            have c45b0 : decide (0 ≤ (ji44)) = true := decide_eq_true c45
                            clear c45
                            by_cases c46 : (ji44) < (t158.size : Int)
                            · rw [if_pos c46] at H
                              have c46b0 : decide ((ji44) < (t158.size : Int)) = true := decide_eq_true c46
                              clear c46
                              by_cases c48 : (bt t158 (ji44)) = 120
                              · rw [if_pos c48] at H
                                have c48b0 : ((bt t158 (ji44)) == 120) = true := beq_iff_eq.mpr c48
                                have c48b1 : ((bt t158 (ji44)) != 120) = false := bne_eq_false_iff_eq.mpr c48
                                clear c48
                                have H' := Aside0.mk H
                                clear H
                                have p20 : 0 ≤ (x4_2 : Int) := of_decide_eq_true (by first | (with_reducible assumption) | assumption)
                                have q20 : x4_2 < (t158.size : Int) := of_decide_eq_true (by first | (with_reducible assumption) | assumption)
                                have hx20 := bt_at t158 x4_2
                                replace p20 := eq_true p20
                                replace q20 := eq_true q20
                                have p22 : 0 ≤ (x4_2 : Int) := of_decide_eq_true (by first | (with_reducible assumption) | assumption)
                                have q22 : x4_2 < (t158.size : Int) := of_decide_eq_true (by first | (with_reducible assumption) | assumption)
                                have hx22 := bt_at t158 x4_2
                                replace p22 := eq_true p22
                                replace q22 := eq_true q22
                                have p24 : 0 ≤ (x4_2 : Int) := of_decide_eq_true (by first | (with_reducible assumption) | assumption)
                                have q24 : x4_2 < (t158.size : Int) := of_decide_eq_true (by first | (with_reducible assumption) | assumption)
                                have hx24 := bt_at t158 x4_2
                                replace p24 := eq_true p24
                                replace q24 := eq_true q24
                                have p42 : 0 ≤ (x4_2 : Int) := of_decide_eq_true (by first | (with_reducible assumption) | assumption)
                                have q42 : x4_2 < (t158.size : Int) := of_decide_eq_true (by first | (with_reducible assumption) | assumption)
                                have hx42 := bt_at t158 x4_2
                                replace p42 := eq_true p42
                                replace q42 := eq_true q42
                                have p47 : 0 ≤ ((ji44) : Int) := of_decide_eq_true (by first | (with_reducible assumption) | assumption)
                                have q47 : (ji44) < (t158.size : Int) := of_decide_eq_true (by first | (with_reducible assumption) | assumption)
                                have hx47 := bt_at t158 (ji44)
                                replace p47 := eq_true p47
                                replace q47 := eq_true q47
                                go_wp2
                                go_roundg k2
                                case measure => have := HJ5.out; have := HK2.out; omega
                                case rel => exact ⟨(ji44), (by first | rfl | (simp; done) | (simp only [← hji44] <;> (first | rfl | simp)) | (simp [*]; done)), H', ⟨by have := HJ5.out; have := HK2.out; omega⟩, ⟨by repeat (first | (with_reducible first | exact HB.out | apply below_alloc | apply pw_below_drewN | apply below_drew1) | exact HB.out)⟩⟩
                              · rw [if_neg c48] at H
                                have c48b0 : ((bt t158 (ji44)) == 120) = false := beq_eq_false_iff_ne.mpr c48
                                have c48b1 : ((bt t158 (ji44)) != 120) = true := bne_iff_ne.mpr c48
                                obtain rfl := Option.some.inj H
                                have p20 : 0 ≤ (x4_2 : Int) := of_decide_eq_true (by first | (with_reducible assumption) | assumption)
                                have q20 : x4_2 < (t158.size : Int) := of_decide_eq_true (by first | (with_reducible assumption) | assumption)
                                have hx20 := bt_at t158 x4_2
                                replace p20 := eq_true p20
                                replace q20 := eq_true q20
                                have p22 : 0 ≤ (x4_2 : Int) := of_decide_eq_true (by first | (with_reducible assumption) | assumption)
                                have q22 : x4_2 < (t158.size : Int) := of_decide_eq_true (by first | (with_reducible assumption) | assumption)
                                have hx22 := bt_at t158 x4_2
                                replace p22 := eq_true p22
                                replace q22 := eq_true q22
                                have p24 : 0 ≤ (x4_2 : Int) := of_decide_eq_true (by first | (with_reducible assumption) | assumption)
                                have q24 : x4_2 < (t158.size : Int) := of_decide_eq_true (by first | (with_reducible assumption) | assumption)
                                have hx24 := bt_at t158 x4_2
                                replace p24 := eq_true p24
                                replace q24 := eq_true q24
                                have p42 : 0 ≤ (x4_2 : Int) := of_decide_eq_true (by first | (with_reducible assumption) | assumption)
                                have q42 : x4_2 < (t158.size : Int) := of_decide_eq_true (by first | (with_reducible assumption) | assumption)
                                have hx42 := bt_at t158 x4_2
                                replace p42 := eq_true p42
                                replace q42 := eq_true q42
                                have p47 : 0 ≤ ((ji44) : Int) := of_decide_eq_true (by first | (with_reducible assumption) | assumption)
                                have q47 : (ji44) < (t158.size : Int) := of_decide_eq_true (by first | (with_reducible assumption) | assumption)
                                have hx47 := bt_at t158 (ji44)
                                replace p47 := eq_true p47
                                replace q47 := eq_true q47
                                go_wp2
                                go_ret
                                exact ⟨by first | rfl | (simp [errW_none, errW_some] <;> rfl) | (simp only [← hji44]; first | rfl | (simp [errW_none, errW_some] <;> rfl)) | (simp [*, errW_none, errW_some] <;> rfl), by repeat (first | (with_reducible first | exact HB.out | apply below_alloc | apply pw_below_drewN | apply below_drew1) | exact HB.out)⟩
                            · rw [if_neg c46] at H
                              exact absurd H (by simp)
                          · rw [if_neg c45] at H
                            exact absurd H (by simp)
                        · rw [if_neg c43] at H
                          have c43b0 : ((bt t158 x4_2) == 92) = false := beq_eq_false_iff_ne.mpr c43
                          have c43b1 : ((bt t158 x4_2) != 92) = true := bne_iff_ne.mpr c43
                          have H' := Aside0.mk H
                          clear H
                          have p20 : 0 ≤ (x4_2 : Int) := of_decide_eq_true (by first | (with_reducible assumption) | assumption)
                          have q20 : x4_2 < (t158.size : Int) := of_decide_eq_true (by first | (with_reducible assumption) | assumption)
                          have hx20 := bt_at t158 x4_2
                          replace p20 := eq_true p20
                          replace q20 := eq_true q20
                          have p22 : 0 ≤ (x4_2 : Int) := of_decide_eq_true (by first | (with_reducible assumption) | assumption)
                          have q22 : x4_2 < (t158.size : Int) := of_decide_eq_true (by first | (with_reducible assumption) | assumption)
                          have hx22 := bt_at t158 x4_2
                          replace p22 := eq_true p22
                          replace q22 := eq_true q22
                          have p24 : 0 ≤ (x4_2 : Int) := of_decide_eq_true (by first | (with_reducible assumption) | assumption)
                          have q24 : x4_2 < (t158.size : Int) := of_decide_eq_true (by first | (with_reducible assumption) | assumption)
                          have hx24 := bt_at t158 x4_2
                          replace p24 := eq_true p24
                          replace q24 := eq_true q24
                          have p42 : 0 ≤ (x4_2 : Int) := of_decide_eq_true (by first | (with_reducible assumption) | assumption)
                          have q42 : x4_2 < (t158.size : Int) := of_decide_eq_true (by first | (with_reducible assumption) | assumption)
                          have hx42 := bt_at t158 x4_2
                          replace p42 := eq_true p42
                          replace q42 := eq_true q42
                          go_wp2
                          go_roundg k2
                          case measure => have := HJ5.out; have := HK2.out; omega
                          case rel => exact ⟨(wrap64 (x4_2 + 1)), (by first | rfl | (simp; done) | (simp [*]; done)), H', ⟨by have := HJ5.out; have := HK2.out; omega⟩, ⟨by repeat (first | (with_reducible first | exact HB.out | apply below_alloc | apply pw_below_drewN | apply below_drew1) | exact HB.out)⟩⟩
                · rw [if_neg c19] at H
                  exact absurd H (by simp)
              · rw [if_neg c18] at H
                have c18b0 : decide (x4_2 < (t158.size : Int)) = false := decide_eq_false c18
                clear c18
                replace H := Option.bind_eq_some_iff.mp H
                obtain ⟨t159, A490, H⟩ := H
                replace H : (some t159) = some r := H
                have A49 := Aside0.mk A490
                clear A490
                obtain rfl := Option.some.inj H
                go_wp2_with (first | ((with_reducible refine gate_callee (f := 11) rfl ?_); refine goesL_ (some 85) rfl rfl Try.func11 (by kernel_rfl) rfl #[] rfl (by (try simp only [List.map_toArray, List.map_cons, List.map_nil]); first | done | rfl | (simp only [List.length_drop, List.length_take]; rfl)) ?_; (with_reducible refine (heirloomlaw02_alive.calls k2  t159 _ A49.out).mono ?_); rintro e w50 ⟨rfl, hb⟩; refine ⟨_, rfl, ?_⟩; have n0_ := Aside0.mk (below_step (by repeat (first | (with_reducible first | exact HB.out | apply below_alloc | apply pw_below_drewN | apply below_drew1) | exact HB.out)) hb); clear HB; have HB := n0_; clear n0_; (try clear hb); (try clear hb2); (try clear hk); (try clear hi)))
                go_ret
                exact ⟨by first | rfl | (simp [errW_none, errW_some] <;> rfl) | (simp [*, errW_none, errW_some] <;> rfl), by repeat (first | (with_reducible first | exact HB.out | apply below_alloc | apply pw_below_drewN | apply below_drew1) | exact HB.out)⟩

/-- THE ONE PURE STATEMENT of heirloomlaw02_TextPlain: yours. -/
def heirloomlaw02_TextPlain.Pure : Prop := ∀ (a0 : ByteArray), a0.size ≤ 140737488351232 → ∃ k, heirloomlaw02_TextPlain.f k a0 = some true
theorem heirloomlaw02_TextPlain.walk (P : heirloomlaw02_TextPlain.Pure) (a0 : ByteArray) (w : World) (w0 : a0.size ≤ 140737488351232) :
    Calls Try.prog 6 #[.string a0] w fun e w' => e = .returned (.bool true) ∧ Below w.heap.size w w' := by
  obtain ⟨k, h⟩ := P a0 w0
  refine (heirloomlaw02_TextPlain.calls k a0 true w h).mono ?_
  rintro e w' ⟨rfl, hd⟩
  exact ⟨rfl, hd⟩

/-! ### heirloomref02_Hash: function 20 -/
def heirloomref02_Hash.l0 : Nat → ByteArray → Int → Int → Option (Int)
  | 0, _, _, _ => none
  | k + 1, x0, x3, x4 => if x4 < (x0.size : Int) then (if 0 ≤ x4 then (heirloomref02_Hash.l0 k x0 (((Go.bits .xor .u32 x3 ((bt x0 x4) % 4294967296)) * 16777619) % 4294967296) (wrap64 (x4 + 1))) else (none)) else (some x3)
def heirloomref02_Hash.f (k : Nat) (a0 : ByteArray) : Option (Int) := heirloomref02_Hash.l0 k a0 2166136261 0
theorem heirloomref02_Hash.mono_l : ∀ k, (∀ y0 y1 y2, LeO (heirloomref02_Hash.l0 k y0 y1 y2) (heirloomref02_Hash.l0 (k + 1) y0 y1 y2))
  | 0 => fun _ _ _ r h => by simp [heirloomref02_Hash.l0] at h
  | k + 1 => by
    have ih0 := heirloomref02_Hash.mono_l k
    · intro y0 y1 y2
      unfold heirloomref02_Hash.l0
      repeat' first
      | (with_reducible exact ih0 _ _ _)
      | (with_reducible exact LeO.refl _)
      | (with_reducible exact LeO.none _)
      | (with_reducible refine LeO.ite ?_ ?_)
      | (with_reducible refine LeO.bind ?_ (fun _ => ?_))
      | exact ih0 _ _ _
      | exact LeO.none _
      | refine LeO.ite ?_ ?_
      | refine LeO.bind ?_ (fun _ => ?_)
theorem heirloomref02_Hash.mono : ∀ a0 k, LeO (heirloomref02_Hash.f k a0) (heirloomref02_Hash.f (k + 1) a0) := by
  intro a0 k
  have ih0 := heirloomref02_Hash.mono_l k
  unfold heirloomref02_Hash.f
  repeat' first
      | (with_reducible exact ih0 _ _ _)
      | (with_reducible exact LeO.refl _)
      | (with_reducible exact LeO.none _)
      | (with_reducible refine LeO.ite ?_ ?_)
      | (with_reducible refine LeO.bind ?_ (fun _ => ?_))
      | exact ih0 _ _ _
      | exact LeO.none _
      | refine LeO.ite ?_ ?_
      | refine LeO.bind ?_ (fun _ => ?_)
set_option maxHeartbeats 8000000 in
set_option maxRecDepth 100000 in
theorem heirloomref02_Hash.calls (k : Nat) (a0 : ByteArray) (r : Int) (w : World) (h : heirloomref02_Hash.f k a0 = some r) :
    Calls Try.prog 20 #[.string a0] w fun e w' => e = .returned (.int .u32 r) ∧ Drawn0 w w' := by
  have H : (heirloomref02_Hash.l0 k a0 2166136261 0) = some r := h
  clear h
  have H' := Aside0.mk H
  clear H
  go_enter Try.func20, Try.ntmps20
  go_wp2
  go_loopg [3, 4] k (fun kq v3 v4 w' => ∃ (x3_1 : Int) (x4_1 : Int), v3 = .int .u32 x3_1 ∧ v4 = .int .i64 x4_1 ∧ Aside0 (heirloomref02_Hash.l0 kq a0 x3_1 x4_1 = some r) ∧ Aside0 (kq ≤ k) ∧ Drawn0 w w')
  case atStart => exact ⟨(2166136261), (0), (by first | rfl | (simp; done) | (simp [*]; done)), (by first | rfl | (simp; done) | (simp [*]; done)), H', ⟨Nat.le_refl _⟩, by repeat (first | exact Drawn0.refl _ | apply Drawn0.step)⟩
  case round =>
    clear H'
    obtain ⟨x3_1, x4_1, rfl, rfl, HA, HK1, ⟨m1, rfl⟩⟩ := hrel
    cases gk with
    | zero => exact absurd HA.out (by simp [heirloomref02_Hash.l0])
    | succ k1 =>
      have H := HA.out
      clear HA
      simp only [heirloomref02_Hash.l0] at H
      by_cases c2 : x4_1 < (a0.size : Int)
      · rw [if_pos c2] at H
        have c2b0 : decide (x4_1 < (a0.size : Int)) = true := decide_eq_true c2
        clear c2
        by_cases c3 : 0 ≤ x4_1
        · rw [if_pos c3] at H
          have c3b0 : decide (0 ≤ x4_1) = true := decide_eq_true c3
          clear c3
          have H' := Aside0.mk H
          clear H
          have p4 : 0 ≤ (x4_1 : Int) := of_decide_eq_true (by first | (with_reducible assumption) | assumption)
          have q4 : x4_1 < (a0.size : Int) := of_decide_eq_true (by first | (with_reducible assumption) | assumption)
          have hx4 := bt_at a0 x4_1
          replace p4 := eq_true p4
          replace q4 := eq_true q4
          go_wp2
          go_roundg k1
          case measure => have := HK1.out; omega
          case rel => exact ⟨(((Go.bits .xor .u32 x3_1 ((bt a0 x4_1) % 4294967296)) * 16777619) % 4294967296), (wrap64 (x4_1 + 1)), (by first | rfl | (simp; done) | (simp [*]; done)), (by first | rfl | (simp; done) | (simp [*]; done)), H', ⟨by have := HK1.out; omega⟩, by repeat (first | exact Drawn0.refl _ | apply Drawn0.step)⟩
        · rw [if_neg c3] at H
          exact absurd H (by simp)
      · rw [if_neg c2] at H
        have c2b0 : decide (x4_1 < (a0.size : Int)) = false := decide_eq_false c2
        clear c2
        obtain rfl := Option.some.inj H
        go_wp2
        go_ret
        exact ⟨by first | rfl | (simp; done) | (simp [*]; done), by repeat (first | exact Drawn0.refl _ | apply Drawn0.step)⟩

/-! ### text_Mix: function 21 -/
def text_Mix.f (a0 : Int) (a1 : Int) : Option (Int) := some (Go.bits .xor .u32 (((IntKind.u64.wrap ((IntKind.u64.wrap ((IntKind.u64.wrap (a1)) * 11400714819323198485)) + (IntKind.u64.wrap (a0)))) / 4294967296) % 4294967296) ((IntKind.u64.wrap ((IntKind.u64.wrap ((IntKind.u64.wrap (a1)) * 11400714819323198485)) + (IntKind.u64.wrap (a0)))) % 4294967296))
set_option maxHeartbeats 8000000 in
set_option maxRecDepth 100000 in
theorem text_Mix.calls (a0 : Int) (a1 : Int) (r : Int) (w : World) (h : text_Mix.f a0 a1 = some r) :
    Calls Try.prog 21 #[.int .i64 a0, .int .i64 a1] w fun e w' => e = .returned (.int .u32 r) ∧ Drawn0 w w' := by
  have H : (some (Go.bits .xor .u32 (((IntKind.u64.wrap ((IntKind.u64.wrap ((IntKind.u64.wrap (a1)) * 11400714819323198485)) + (IntKind.u64.wrap (a0)))) / 4294967296) % 4294967296) ((IntKind.u64.wrap ((IntKind.u64.wrap ((IntKind.u64.wrap (a1)) * 11400714819323198485)) + (IntKind.u64.wrap (a0)))) % 4294967296))) = some r := h
  clear h
  obtain rfl := Option.some.inj H
  go_enter Try.func21, Try.ntmps21
  go_wp2
  go_ret
  exact ⟨by first | rfl | (simp; done) | (simp [*]; done), by repeat (first | exact Drawn0.refl _ | apply Drawn0.step)⟩

/-! ### heirloomref02_Mix: function 22 -/
def heirloomref02_Mix.f (a0 : Int) (a1 : Int) : Option (Int) := some (Go.bits .xor .u32 (((IntKind.u64.wrap ((IntKind.u64.wrap ((IntKind.u64.wrap (a1)) * 11400714819323198485)) + (IntKind.u64.wrap (a0)))) / 4294967296) % 4294967296) ((Go.bits .and .u64 (IntKind.u64.wrap ((IntKind.u64.wrap ((IntKind.u64.wrap (a1)) * 11400714819323198485)) + (IntKind.u64.wrap (a0)))) 4294967295) % 4294967296))
set_option maxHeartbeats 8000000 in
set_option maxRecDepth 100000 in
theorem heirloomref02_Mix.calls (a0 : Int) (a1 : Int) (r : Int) (w : World) (h : heirloomref02_Mix.f a0 a1 = some r) :
    Calls Try.prog 22 #[.int .i64 a0, .int .i64 a1] w fun e w' => e = .returned (.int .u32 r) ∧ Drawn0 w w' := by
  have H : (some (Go.bits .xor .u32 (((IntKind.u64.wrap ((IntKind.u64.wrap ((IntKind.u64.wrap (a1)) * 11400714819323198485)) + (IntKind.u64.wrap (a0)))) / 4294967296) % 4294967296) ((Go.bits .and .u64 (IntKind.u64.wrap ((IntKind.u64.wrap ((IntKind.u64.wrap (a1)) * 11400714819323198485)) + (IntKind.u64.wrap (a0)))) 4294967295) % 4294967296))) = some r := h
  clear h
  obtain rfl := Option.some.inj H
  go_enter Try.func22, Try.ntmps22
  go_wp2
  go_ret
  exact ⟨by first | rfl | (simp; done) | (simp [*]; done), by repeat (first | exact Drawn0.refl _ | apply Drawn0.step)⟩

end Go.Proofs.Ytllchgoppogibaa.Print
