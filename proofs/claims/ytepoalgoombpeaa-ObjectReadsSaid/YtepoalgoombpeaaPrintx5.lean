/- PROVED: each Lean function of this text answers as the Go function of its name does. Conditions: none beyond what each theorem states. (Written by the session's own program xprint.py.) -/
import Derived.Test.YtepoalgoombpeaaPrintx0
import Derived.Test.YtepoalgoombpeaaPrintx3
import Derived.Test.YtepoalgoombpeaaPrintx4
namespace Go.Proofs.Ytepoalgoombpeaa.Print
open Go.RowKit Go.Proofs.YtepoalgoombpeaaW.PrintWords Go.Proofs.YtepoalgoombpeaaW.PrintLast Go.Proofs.YtepoalgoombpeaaW.PrintMore
attribute [local go_sem] max2_int min2_int max_two min_two max_three min_three max_four min_four   -- for this text's walks alone
set_option linter.unusedVariables false
set_option linter.unusedSimpArgs false

-- NOT PRINTED: function 37 (object_pair)

/-! ### object_Pack: function 12 -/
theorem object_pair.any (k c a wk s fi au sl : Int) (w : World) (hk : 4 ≤ k ∧ k ≤ 9) (hc : 0 ≤ c ∧ c ≤ 3) (ha : 0 ≤ a ∧ a ≤ 6) (hw : 0 ≤ wk ∧ wk ≤ 3) (hs : 0 ≤ s ∧ s ≤ 2147483647) (hf : 0 ≤ fi ∧ fi ≤ 2147483647) (hau : 0 ≤ au ∧ au ≤ 4096) (hsl : 0 ≤ sl ∧ sl ≤ 4096) :
    Calls Try.prog 37 #[.agg #[.int .i64 k, .int .i64 c, .int .i64 a, .int .i64 wk, .int .i64 s, .int .i64 fi, .int .i64 au, .int .i64 sl]] w fun e w' => e = .returned (.agg #[.int .i64 (k + 16 * c + 64 * a + 512 * wk + 2048 * s), .int .i64 (au + 8192 * sl + 67108864 * fi)]) ∧ Below w.heap.size w w' := by
  have e1 : bits .or .i64 k (c * 16) = k + c * 16 := TextMath.or_join_i64 (b := c) 4 (by omega) (by omega) (by omega) (by omega) (by omega) (by decide);have e2 : bits .or .i64 (k + c * 16) (a * 64) = k + c * 16 + a * 64 := TextMath.or_join_i64 (b := a) 6 (by omega) (by omega) (by omega) (by omega) (by omega) (by decide);have e3 : bits .or .i64 (k + c * 16 + a * 64) (wk * 512) = k + c * 16 + a * 64 + wk * 512 := TextMath.or_join_i64 (b := wk) 9 (by omega) (by omega) (by omega) (by omega) (by omega) (by decide)
  have e4 : bits .or .i64 (k + c * 16 + a * 64 + wk * 512) (s * 2048) = k + 16 * c + 64 * a + 512 * wk + 2048 * s := by
    rw [TextMath.or_join_i64 (b := s) 11 (by omega) (by omega) (by omega) (by omega) (by omega) (by decide)]
    omega
  have f1 : bits .or .i64 au (sl * 8192) = au + sl * 8192 := TextMath.or_join_i64 (b := sl) 13 (by omega) (by omega) (by omega) (by omega) (by omega) (by decide)
  have f2 : bits .or .i64 (au + sl * 8192) (fi * 67108864) = au + 8192 * sl + 67108864 * fi := by
    rw [TextMath.or_join_i64 (b := fi) 26 (by omega) (by omega) (by omega) (by omega) (by omega) (by decide)]
    omega
  have E1 := Aside0.mk e1;have E2 := Aside0.mk e2;have E3 := Aside0.mk e3;have E4 := Aside0.mk e4;have F1 := Aside0.mk f1;have F2 := Aside0.mk f2;clear e1 e2 e3 e4 f1 f2;go_enter Try.func37, Try.ntmps37;go_wp2;rw [E1.out, E2.out, E3.out, E4.out, F1.out, F2.out];refine bodyPost_ret (v := .agg #[.int .i64 (k + 16 * c + 64 * a + 512 * wk + 2048 * s), .int .i64 (au + 8192 * sl + 67108864 * fi)]) (by simp [results, Try.results37, go_sem]) rfl ⟨rfl, ?_⟩;exact below_alloc (below_alloc (Below.refl _ _) _) _
def HeadOk (c a wk s fi au sl : Int) : Prop := (0 ≤ c ∧ c ≤ 3) ∧ (0 ≤ a ∧ a ≤ 6) ∧ (0 ≤ wk ∧ wk ≤ 3) ∧ (0 ≤ s ∧ s ≤ 2147483647) ∧ (0 ≤ fi ∧ fi ≤ 2147483647) ∧ (0 ≤ au ∧ au ≤ 4096) ∧ (0 ≤ sl ∧ sl ≤ 4096)
instance HeadOk.dec (c a wk s fi au sl : Int) : Decidable (HeadOk c a wk s fi au sl) := by unfold HeadOk; infer_instance
/-- What a head is told to be. -/
def rightZ (k c a wk s fi au sl : Int) : Int :=
  if k < 4 ∨ 9 < k then 10
  else if ¬ HeadOk c a wk s fi au sl then 1
  else if k ≠ 5 ∧ (wk ≠ 0 ∨ fi ≠ 0) then 1 else 0
theorem object_within.eq (n hi : Int) : object_within.f n hi = some (decide (0 ≤ n) && decide (n ≤ hi)) := by
  unfold object_within.f;by_cases h : n ≥ 0;·rw [if_pos h];simp [h]
  ·rw [if_neg h];simp [h]
theorem object_Right.f3 (m : Nat) (k c a wk s fi au sl : Int) : object_Right.f (m + 2) k c a wk s fi au sl = some (rightZ k c a wk s fi au sl) := by
  unfold object_Right.f rightZ;by_cases h1 : k < 4;·rw [if_pos h1, if_pos (.inl h1)];simp only [object_Right.j0, if_true]
  · rw [if_neg h1];by_cases h2 : k > 9;·rw [if_pos (.inr h2)];simp only [decide_eq_true h2, object_Right.j0, if_true]
    · rw [if_neg (by omega)];simp only [decide_eq_false h2, object_Right.j0, object_within.eq, Option.bind_some, object_Right.j1];by_cases c1 : 0 ≤ c ∧ c ≤ 3
      · by_cases c2 : 0 ≤ a ∧ a ≤ 6
        · by_cases c3 : 0 ≤ wk ∧ wk ≤ 3
          · by_cases c4 : 0 ≤ s ∧ s ≤ 2147483647
            · by_cases c5 : 0 ≤ fi ∧ fi ≤ 2147483647
              · by_cases c6 : 0 ≤ au ∧ au ≤ 4096
                · by_cases c7 : 0 ≤ sl ∧ sl ≤ 4096
                  · rw [if_neg (not_not_intro (show HeadOk c a wk s fi au sl from ⟨c1, c2, c3, c4, c5, c6, c7⟩))];by_cases k5 : k = 5;·simp [c1, c2, c3, c4, c5, c6, c7, k5]
                    · by_cases w0 : wk = 0
                      · by_cases f0 : fi = 0;·simp [c1, c2, c4, c6, c7, k5, w0, f0]
                        ·simp [c1, c2, c4, c5, c6, c7, k5, w0, f0]
                      ·simp [c1, c2, c3, c4, c5, c6, c7, k5, w0]
                  ·rw [if_pos (show ¬ HeadOk c a wk s fi au sl from fun h => c7 h.2.2.2.2.2.2)];(have b7 : (decide (0 ≤ sl) && decide (sl ≤ 4096)) = false := by simp; omega);simp [c1, c2, c3, c4, c5, c6, b7]
                ·rw [if_pos (show ¬ HeadOk c a wk s fi au sl from fun h => c6 h.2.2.2.2.2.1)];(have b6 : (decide (0 ≤ au) && decide (au ≤ 4096)) = false := by simp; omega);simp [c1, c2, c3, c4, c5, b6]
              ·rw [if_pos (show ¬ HeadOk c a wk s fi au sl from fun h => c5 h.2.2.2.2.1)];(have b5 : (decide (0 ≤ fi) && decide (fi ≤ 2147483647)) = false := by simp; omega);simp [c1, c2, c3, c4, b5]
            ·rw [if_pos (show ¬ HeadOk c a wk s fi au sl from fun h => c4 h.2.2.2.1)];(have b4 : (decide (0 ≤ s) && decide (s ≤ 2147483647)) = false := by simp; omega);simp [c1, c2, c3, b4]
          ·rw [if_pos (show ¬ HeadOk c a wk s fi au sl from fun h => c3 h.2.2.1)];(have b3 : (decide (0 ≤ wk) && decide (wk ≤ 3)) = false := by simp; omega);simp [c1, c2, b3]
        ·rw [if_pos (show ¬ HeadOk c a wk s fi au sl from fun h => c2 h.2.1)];(have b2 : (decide (0 ≤ a) && decide (a ≤ 6)) = false := by simp; omega);simp [c1, b2]
      ·rw [if_pos (show ¬ HeadOk c a wk s fi au sl from fun h => c1 h.1)];(have b1 : (decide (0 ≤ c) && decide (c ≤ 3)) = false := by simp; omega);simp [b1]
theorem rightZ.zero {k c a wk s fi au sl : Int} (h : rightZ k c a wk s fi au sl = 0) : (4 ≤ k ∧ k ≤ 9) ∧ (0 ≤ c ∧ c ≤ 3) ∧ (0 ≤ a ∧ a ≤ 6) ∧ (0 ≤ wk ∧ wk ≤ 3) ∧ (0 ≤ s ∧ s ≤ 2147483647) ∧ (0 ≤ fi ∧ fi ≤ 2147483647) ∧ (0 ≤ au ∧ au ≤ 4096) ∧ (0 ≤ sl ∧ sl ≤ 4096) := by
  unfold rightZ at h;split at h;·omega
  · split at h;·omega
    ·rename_i h1 h2;exact ⟨by omega, Classical.not_not.1 h2⟩
def packZ (k c a wk s fi au sl : Int) : Int × Int × Int := if rightZ k c a wk s fi au sl = 0 then (k + 16 * c + 64 * a + 512 * wk + 2048 * s, au + 8192 * sl + 67108864 * fi, 0) else (0, 0, rightZ k c a wk s fi au sl)
def object_Pack.f (_k : Nat) (a0_0 a0_1 a0_2 a0_3 a0_4 a0_5 a0_6 a0_7 : Int) : Option (Int × Int × Int) := some (packZ a0_0 a0_1 a0_2 a0_3 a0_4 a0_5 a0_6 a0_7)
theorem object_Pack.mono : ∀ a0 a1 a2 a3 a4 a5 a6 a7 k, LeO (object_Pack.f k a0 a1 a2 a3 a4 a5 a6 a7) (object_Pack.f (k + 1) a0 a1 a2 a3 a4 a5 a6 a7) := fun _ _ _ _ _ _ _ _ _ => LeO.refl _
set_option maxHeartbeats 2000000 in
theorem object_Pack.no (k c a wk s fi au sl : Int) (w : World) (h : rightZ k c a wk s fi au sl ≠ 0) :
    Calls Try.prog 12 #[.agg #[.int .i64 k, .int .i64 c, .int .i64 a, .int .i64 wk, .int .i64 s, .int .i64 fi, .int .i64 au, .int .i64 sl]] w fun e w' => e = .returned (.tuple #[.int .i64 0, .int .i64 0, .int .i64 (rightZ k c a wk s fi au sl)]) ∧ Below w.heap.size w w' := by
  have HR := Aside0.mk (object_Right.f3 0 k c a wk s fi au sl);obtain ⟨r, hr⟩ : ∃ r, r = rightZ k c a wk s fi au sl := ⟨_, rfl⟩;rw [← hr] at h HR ⊢;clear hr;have hb : (r != 0) = true := bne_iff_ne.2 h;clear h;go_enter Try.func12, Try.ntmps12;(go_wp2_with (go_at_call 15; (with_reducible refine (object_Right.calls 2 k c a wk s fi au sl r _ HR.out).mono ?_); rintro e w1 ⟨rfl, hb1⟩));go_ret3;exact ⟨rfl, below_step (below_alloc (Below.refl _ _) _) hb1⟩
set_option maxHeartbeats 2000000 in
theorem object_Pack.yes (k c a wk s fi au sl : Int) (w : World) (h : rightZ k c a wk s fi au sl = 0) :
    Calls Try.prog 12 #[.agg #[.int .i64 k, .int .i64 c, .int .i64 a, .int .i64 wk, .int .i64 s, .int .i64 fi, .int .i64 au, .int .i64 sl]] w fun e w' => e = .returned (.tuple #[.int .i64 (k + 16 * c + 64 * a + 512 * wk + 2048 * s), .int .i64 (au + 8192 * sl + 67108864 * fi), .int .i64 0]) ∧ Below w.heap.size w w' := by
  have HR := Aside0.mk (object_Right.f3 0 k c a wk s fi au sl);rw [h] at HR;have HZ := Aside0.mk (rightZ.zero h);clear h;obtain ⟨X, hX⟩ : ∃ X, X = k + 16 * c + 64 * a + 512 * wk + 2048 * s := ⟨_, rfl⟩;obtain ⟨Y, hY⟩ : ∃ Y, Y = au + 8192 * sl + 67108864 * fi := ⟨_, rfl⟩
  have HP : Aside0 (∀ W : World, Calls Try.prog 37 #[.agg #[.int .i64 k, .int .i64 c, .int .i64 a, .int .i64 wk, .int .i64 s, .int .i64 fi, .int .i64 au, .int .i64 sl]] W fun e w' => e = .returned (.agg #[.int .i64 X, .int .i64 Y]) ∧ Below W.heap.size W w') := ⟨by
    intro W
    rw [hX, hY]
    obtain ⟨z1, z2, z3, z4, z5, z6, z7, z8⟩ := HZ.out
    exact object_pair.any k c a wk s fi au sl W z1 z2 z3 z4 z5 z6 z7 z8⟩
  rw [← hX, ← hY];clear hX hY HZ;go_enter Try.func12, Try.ntmps12
  go_wp2_with (first
    | (go_at_call 15; (with_reducible refine (object_Right.calls 2 k c a wk s fi au sl 0 _ HR.out).mono ?_); rintro e w1 ⟨rfl, hb1⟩; have hcs : ∀ j, w1.cell? ⟨w.heap.size, j, none⟩ = (w.alloc (.cells #[.int .i64 k, .int .i64 c, .int .i64 a, .int .i64 wk, .int .i64 s, .int .i64 fi, .int .i64 au, .int .i64 sl] 23)).cell? ⟨w.heap.size, j, none⟩ := fun j => hb1.cell (p := ⟨w.heap.size, j, none⟩) (by simp))
    | (go_at_call 37; (with_reducible refine (HP.out _).mono ?_); rintro e w2 ⟨rfl, hb2⟩))
  go_quiet (fail);go_wp2;go_ret3;exact ⟨rfl, by repeat (first | apply pw_below_drewN | apply below_drew1 | (apply below_alloc) | exact below_step (below_step (below_alloc (Below.refl _ _) _) hb1) hb2)⟩
theorem object_Pack.calls (k : Nat) (a0_0 a0_1 a0_2 a0_3 a0_4 a0_5 a0_6 a0_7 : Int) (r1 r2 r3 : Int) (w : World) (h : object_Pack.f k a0_0 a0_1 a0_2 a0_3 a0_4 a0_5 a0_6 a0_7 = some (r1, r2, r3)) :
    Calls Try.prog 12 #[.agg #[.int .i64 a0_0, .int .i64 a0_1, .int .i64 a0_2, .int .i64 a0_3, .int .i64 a0_4, .int .i64 a0_5, .int .i64 a0_6, .int .i64 a0_7]] w fun e w' => e = .returned (.tuple #[.int .i64 r1, .int .i64 r2, .int .i64 r3]) ∧ Below w.heap.size w w' := by
  have e := Option.some.inj h;unfold packZ at e;by_cases hz : rightZ a0_0 a0_1 a0_2 a0_3 a0_4 a0_5 a0_6 a0_7 = 0;·rw [if_pos hz] at e;simp only [Prod.mk.injEq] at e;obtain ⟨rfl, rfl, rfl⟩ := e;exact object_Pack.yes _ _ _ _ _ _ _ _ w hz
  ·rw [if_neg hz] at e;simp only [Prod.mk.injEq] at e;obtain ⟨rfl, rfl, rfl⟩ := e;exact object_Pack.no _ _ _ _ _ _ _ _ w hz

/-! ### heirloomref04_in: function 38 -/
def heirloomref04_in.f (a0 : Int) (a1 : Int) : Option (Bool) := if a0 ≥ 0 then (some (decide (a0 ≤ a1))) else (some false)
set_option maxHeartbeats 8000000 in
set_option maxRecDepth 100000 in
theorem heirloomref04_in.calls (a0 : Int) (a1 : Int) (r : Bool) (w : World) (h : heirloomref04_in.f a0 a1 = some r) :
  Calls Try.prog 38 #[.int .i64 a0, .int .i64 a1] w fun e w' => e = .returned (.bool r) ∧ Drawn0 w w' := by
 have H : (if a0 ≥ 0 then (some (decide (a0 ≤ a1))) else (some false)) = some r := h;clear h;by_cases c3 : a0 ≥ 0;·rw [if_pos c3] at H;have c3b0 : decide (0 ≤ a0) = true := decide_eq_true c3;clear c3;obtain rfl := Option.some.inj H;go_enter Try.func38, Try.ntmps38;go_wp2;go_ret;exact ⟨by first | rfl | (simp; done) | (simp [*]; done), by repeat (first | exact Drawn0.refl _ | apply Drawn0.step)⟩
 ·rw [if_neg c3] at H;have c3b0 : decide (0 ≤ a0) = false := decide_eq_false c3;clear c3;obtain rfl := Option.some.inj H;go_enter Try.func38, Try.ntmps38;go_wp2;go_ret;exact ⟨by first | rfl | (simp; done) | (simp [*]; done), by repeat (first | exact Drawn0.refl _ | apply Drawn0.step)⟩

end Go.Proofs.Ytepoalgoombpeaa.Print
