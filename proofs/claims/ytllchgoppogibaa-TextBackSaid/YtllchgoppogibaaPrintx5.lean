/- PROVED: each Lean function of this text answers as the Go function of its name does. Conditions: none beyond what each theorem states. (Written by the session's own program xprint.py.) -/
import Derived.Test.YtllchgoppogibaaPrintx0
import Derived.Test.YtllchgoppogibaaPrintx1
import Derived.Test.YtllchgoppogibaaPrintx2
import Derived.Test.YtllchgoppogibaaPrintx4
namespace Go.Proofs.Ytllchgoppogibaa.Print
open Go.RowKit Go.Proofs.YtllchgoppogibaaW.PrintWords Go.Proofs.YtllchgoppogibaaW.PrintLast Go.Proofs.YtllchgoppogibaaW.PrintMore
attribute [local go_sem] max2_int min2_int max_two min_two max_three min_three max_four min_four   -- for this text's walks alone
set_option linter.unusedVariables false
set_option linter.unusedSimpArgs false

/-! ### heirloomlaw02_TextHashes: function 7 -/
def heirloomlaw02_TextHashes.f (k : Nat) (a0 : ByteArray) (a1 : Int) (a2 : Int) : Option (Bool) := if (a0.size : Int) > 3000 then ((heirloomlaw02_alive.f k).bind fun t160 => (some t160)) else ((text_Hash.f k a0).bind fun t161 => ((heirloomref02_Hash.f k a0).bind fun t162 => (if t161 = t162 then ((text_Mix.f a1 a2).bind fun t163 => ((heirloomref02_Mix.f a1 a2).bind fun t164 => (if t163 = t164 then ((heirloomlaw02_alive.f k).bind fun t165 => (some t165)) else (some false)))) else (some false))))
theorem heirloomlaw02_TextHashes.mono : ∀ a0 a1 a2 k, LeO (heirloomlaw02_TextHashes.f k a0 a1 a2) (heirloomlaw02_TextHashes.f (k + 1) a0 a1 a2) := by
  intro a0 a1 a2 k
  unfold heirloomlaw02_TextHashes.f
  repeat' first
      | (with_reducible exact heirloomlaw02_alive.mono _)
      | (with_reducible exact heirloomref02_Hash.mono _ _)
      | (with_reducible exact text_Hash.mono _ _)
      | (with_reducible exact LeO.refl _)
      | (with_reducible exact LeO.none _)
      | (with_reducible refine LeO.ite ?_ ?_)
      | (with_reducible refine LeO.bind ?_ (fun _ => ?_))
      | exact heirloomlaw02_alive.mono _
      | exact heirloomref02_Hash.mono _ _
      | exact text_Hash.mono _ _
      | exact LeO.none _
      | refine LeO.ite ?_ ?_
      | refine LeO.bind ?_ (fun _ => ?_)
set_option maxHeartbeats 8000000 in
set_option maxRecDepth 100000 in
theorem heirloomlaw02_TextHashes.calls (k : Nat) (a0 : ByteArray) (a1 : Int) (a2 : Int) (r : Bool) (w : World) (h : heirloomlaw02_TextHashes.f k a0 a1 a2 = some r) :
    Calls Try.prog 7 #[.string a0, .int .i64 a1, .int .i64 a2] w fun e w' => e = .returned (.bool r) ∧ Below w.heap.size w w' := by
  have HB := Aside0.mk (Below.refl w.heap.size w)
  have H : (if (a0.size : Int) > 3000 then ((heirloomlaw02_alive.f k).bind fun t160 => (some t160)) else ((text_Hash.f k a0).bind fun t161 => ((heirloomref02_Hash.f k a0).bind fun t162 => (if t161 = t162 then ((text_Mix.f a1 a2).bind fun t163 => ((heirloomref02_Mix.f a1 a2).bind fun t164 => (if t163 = t164 then ((heirloomlaw02_alive.f k).bind fun t165 => (some t165)) else (some false)))) else (some false))))) = some r := h
  clear h
  by_cases c4 : (a0.size : Int) > 3000
  · rw [if_pos c4] at H
    have c4b0 : decide (3000 < (a0.size : Int)) = true := decide_eq_true c4
    have c4b1 : decide (3000 < a0.size) = true := decide_eq_true (by omega)
    clear c4
    replace H := Option.bind_eq_some_iff.mp H
    obtain ⟨t160, A50, H⟩ := H
    replace H : (some t160) = some r := H
    have A5 := Aside0.mk A50
    clear A50
    obtain rfl := Option.some.inj H
    go_enter Try.func7, Try.ntmps7
    go_wp2_with (first | ((with_reducible refine gate_callee (f := 11) rfl ?_); refine goesL_ (some 10) rfl rfl Try.func11 (by kernel_rfl) rfl #[] rfl (by (try simp only [List.map_toArray, List.map_cons, List.map_nil]); first | done | rfl | (simp only [List.length_drop, List.length_take]; rfl)) ?_; (with_reducible refine (heirloomlaw02_alive.calls k  t160 _ A5.out).mono ?_); rintro e w6 ⟨rfl, hb⟩; refine ⟨_, rfl, ?_⟩; have n0_ := Aside0.mk (below_step (by repeat (first | (with_reducible first | exact HB.out | apply below_alloc | apply pw_below_drewN | apply below_drew1) | exact HB.out)) hb); clear HB; have HB := n0_; clear n0_; (try clear hb); (try clear hb2); (try clear hk); (try clear hi)))
    go_ret
    exact ⟨by first | rfl | (simp [errW_none, errW_some] <;> rfl) | (simp [*, errW_none, errW_some] <;> rfl), by repeat (first | (with_reducible first | exact HB.out | apply below_alloc | apply pw_below_drewN | apply below_drew1) | exact HB.out)⟩
  · rw [if_neg c4] at H
    have c4b0 : decide (3000 < (a0.size : Int)) = false := decide_eq_false c4
    have c4b1 : decide (3000 < a0.size) = false := decide_eq_false (by omega)
    clear c4
    replace H := Option.bind_eq_some_iff.mp H
    obtain ⟨t161, A70, H⟩ := H
    replace H : ((heirloomref02_Hash.f k a0).bind fun t162 => (if t161 = t162 then ((text_Mix.f a1 a2).bind fun t163 => ((heirloomref02_Mix.f a1 a2).bind fun t164 => (if t163 = t164 then ((heirloomlaw02_alive.f k).bind fun t165 => (some t165)) else (some false)))) else (some false))) = some r := H
    have A7 := Aside0.mk A70
    clear A70
    replace H := Option.bind_eq_some_iff.mp H
    obtain ⟨t162, A80, H⟩ := H
    replace H : (if t161 = t162 then ((text_Mix.f a1 a2).bind fun t163 => ((heirloomref02_Mix.f a1 a2).bind fun t164 => (if t163 = t164 then ((heirloomlaw02_alive.f k).bind fun t165 => (some t165)) else (some false)))) else (some false)) = some r := H
    have A8 := Aside0.mk A80
    clear A80
    by_cases c9 : t161 = t162
    · rw [if_pos c9] at H
      have c9b0 : (t161 == t162) = true := beq_iff_eq.mpr c9
      have c9b1 : (t161 != t162) = false := bne_eq_false_iff_eq.mpr c9
      clear c9
      replace H := Option.bind_eq_some_iff.mp H
      obtain ⟨t163, A100, H⟩ := H
      replace H : ((heirloomref02_Mix.f a1 a2).bind fun t164 => (if t163 = t164 then ((heirloomlaw02_alive.f k).bind fun t165 => (some t165)) else (some false))) = some r := H
      have A10 := Aside0.mk A100
      clear A100
      replace H := Option.bind_eq_some_iff.mp H
      obtain ⟨t164, A110, H⟩ := H
      replace H : (if t163 = t164 then ((heirloomlaw02_alive.f k).bind fun t165 => (some t165)) else (some false)) = some r := H
      have A11 := Aside0.mk A110
      clear A110
      by_cases c12 : t163 = t164
      · rw [if_pos c12] at H
        have c12b0 : (t163 == t164) = true := beq_iff_eq.mpr c12
        have c12b1 : (t163 != t164) = false := bne_eq_false_iff_eq.mpr c12
        clear c12
        replace H := Option.bind_eq_some_iff.mp H
        obtain ⟨t165, A130, H⟩ := H
        replace H : (some t165) = some r := H
        have A13 := Aside0.mk A130
        clear A130
        obtain rfl := Option.some.inj H
        go_enter Try.func7, Try.ntmps7
        go_wp2_with (first | ((with_reducible refine gate_callee (f := 19) rfl ?_); refine goesL_ (some 12) rfl rfl Try.func19 (by kernel_rfl) rfl #[.string a0] rfl (by (try simp only [List.map_toArray, List.map_cons, List.map_nil]); first | done | rfl | (simp only [List.length_drop, List.length_take]; rfl)) ?_; (with_reducible refine (text_Hash.calls k a0 t161 _ A7.out).mono ?_); rintro e w' ⟨rfl, ⟨nd, rfl⟩⟩; refine ⟨_, rfl, ?_⟩) | ((with_reducible refine gate_callee (f := 20) rfl ?_); refine goesL_ (some 14) rfl rfl Try.func20 (by kernel_rfl) rfl #[.string a0] rfl (by (try simp only [List.map_toArray, List.map_cons, List.map_nil]); first | done | rfl | (simp only [List.length_drop, List.length_take]; rfl)) ?_; (with_reducible refine (heirloomref02_Hash.calls k a0 t162 _ A8.out).mono ?_); rintro e w' ⟨rfl, ⟨nd, rfl⟩⟩; refine ⟨_, rfl, ?_⟩) | (go_at_call 21; (with_reducible refine (text_Mix.calls a1 a2 t163 _ A10.out).mono ?_); rintro e w' ⟨rfl, ⟨nd, rfl⟩⟩) | (go_at_call 22; (with_reducible refine (heirloomref02_Mix.calls a1 a2 t164 _ A11.out).mono ?_); rintro e w' ⟨rfl, ⟨nd, rfl⟩⟩) | (go_at_call 11; (with_reducible refine (heirloomlaw02_alive.calls k  t165 _ A13.out).mono ?_); rintro e w14 ⟨rfl, hb⟩; have n0_ := Aside0.mk (below_step (by repeat (first | (with_reducible first | exact HB.out | apply below_alloc | apply pw_below_drewN | apply below_drew1) | exact HB.out)) hb); clear HB; have HB := n0_; clear n0_; (try clear hb); (try clear hb2); (try clear hk); (try clear hi)))
        go_ret
        exact ⟨by first | rfl | (simp [errW_none, errW_some] <;> rfl) | (simp [*, errW_none, errW_some] <;> rfl), by repeat (first | (with_reducible first | exact HB.out | apply below_alloc | apply pw_below_drewN | apply below_drew1) | exact HB.out)⟩
      · rw [if_neg c12] at H
        have c12b0 : (t163 == t164) = false := beq_eq_false_iff_ne.mpr c12
        have c12b1 : (t163 != t164) = true := bne_iff_ne.mpr c12
        obtain rfl := Option.some.inj H
        go_enter Try.func7, Try.ntmps7
        go_wp2_with (first | ((with_reducible refine gate_callee (f := 19) rfl ?_); refine goesL_ (some 12) rfl rfl Try.func19 (by kernel_rfl) rfl #[.string a0] rfl (by (try simp only [List.map_toArray, List.map_cons, List.map_nil]); first | done | rfl | (simp only [List.length_drop, List.length_take]; rfl)) ?_; (with_reducible refine (text_Hash.calls k a0 t161 _ A7.out).mono ?_); rintro e w' ⟨rfl, ⟨nd, rfl⟩⟩; refine ⟨_, rfl, ?_⟩) | ((with_reducible refine gate_callee (f := 20) rfl ?_); refine goesL_ (some 14) rfl rfl Try.func20 (by kernel_rfl) rfl #[.string a0] rfl (by (try simp only [List.map_toArray, List.map_cons, List.map_nil]); first | done | rfl | (simp only [List.length_drop, List.length_take]; rfl)) ?_; (with_reducible refine (heirloomref02_Hash.calls k a0 t162 _ A8.out).mono ?_); rintro e w' ⟨rfl, ⟨nd, rfl⟩⟩; refine ⟨_, rfl, ?_⟩) | (go_at_call 21; (with_reducible refine (text_Mix.calls a1 a2 t163 _ A10.out).mono ?_); rintro e w' ⟨rfl, ⟨nd, rfl⟩⟩) | (go_at_call 22; (with_reducible refine (heirloomref02_Mix.calls a1 a2 t164 _ A11.out).mono ?_); rintro e w' ⟨rfl, ⟨nd, rfl⟩⟩))
        go_ret
        exact ⟨by first | rfl | (simp [errW_none, errW_some] <;> rfl) | (simp [*, errW_none, errW_some] <;> rfl), by repeat (first | (with_reducible first | exact HB.out | apply below_alloc | apply pw_below_drewN | apply below_drew1) | exact HB.out)⟩
    · rw [if_neg c9] at H
      have c9b0 : (t161 == t162) = false := beq_eq_false_iff_ne.mpr c9
      have c9b1 : (t161 != t162) = true := bne_iff_ne.mpr c9
      obtain rfl := Option.some.inj H
      go_enter Try.func7, Try.ntmps7
      go_wp2_with (first | ((with_reducible refine gate_callee (f := 19) rfl ?_); refine goesL_ (some 12) rfl rfl Try.func19 (by kernel_rfl) rfl #[.string a0] rfl (by (try simp only [List.map_toArray, List.map_cons, List.map_nil]); first | done | rfl | (simp only [List.length_drop, List.length_take]; rfl)) ?_; (with_reducible refine (text_Hash.calls k a0 t161 _ A7.out).mono ?_); rintro e w' ⟨rfl, ⟨nd, rfl⟩⟩; refine ⟨_, rfl, ?_⟩) | ((with_reducible refine gate_callee (f := 20) rfl ?_); refine goesL_ (some 14) rfl rfl Try.func20 (by kernel_rfl) rfl #[.string a0] rfl (by (try simp only [List.map_toArray, List.map_cons, List.map_nil]); first | done | rfl | (simp only [List.length_drop, List.length_take]; rfl)) ?_; (with_reducible refine (heirloomref02_Hash.calls k a0 t162 _ A8.out).mono ?_); rintro e w' ⟨rfl, ⟨nd, rfl⟩⟩; refine ⟨_, rfl, ?_⟩))
      go_ret
      exact ⟨by first | rfl | (simp [errW_none, errW_some] <;> rfl) | (simp [*, errW_none, errW_some] <;> rfl), by repeat (first | (with_reducible first | exact HB.out | apply below_alloc | apply pw_below_drewN | apply below_drew1) | exact HB.out)⟩

/-- THE ONE PURE STATEMENT of heirloomlaw02_TextHashes: yours. -/
def heirloomlaw02_TextHashes.Pure : Prop := ∀ (a0 : ByteArray) (a1 : Int) (a2 : Int), a0.size ≤ 140737488351232 → (Lit.int .i64 a1).wf = true → (Lit.int .i64 a2).wf = true → ∃ k, heirloomlaw02_TextHashes.f k a0 a1 a2 = some true
theorem heirloomlaw02_TextHashes.walk (P : heirloomlaw02_TextHashes.Pure) (a0 : ByteArray) (a1 : Int) (a2 : Int) (w : World) (w0 : a0.size ≤ 140737488351232) (w1 : (Lit.int .i64 a1).wf = true) (w2 : (Lit.int .i64 a2).wf = true) :
    Calls Try.prog 7 #[.string a0, .int .i64 a1, .int .i64 a2] w fun e w' => e = .returned (.bool true) ∧ Below w.heap.size w w' := by
  obtain ⟨k, h⟩ := P a0 a1 a2 w0 w1 w2
  refine (heirloomlaw02_TextHashes.calls k a0 a1 a2 true w h).mono ?_
  rintro e w' ⟨rfl, hd⟩
  exact ⟨rfl, hd⟩

/-! ### text_Unpack: function 23 -/
def text_Unpack.f (l0 : List Int) (a1 : Int) : Option (ByteArray × Int) := if l0.length * 8 ≤ 140737488351232 ∧ -9223372036854775808 ≤ a1 ∧ a1 ≤ 9223372036854775807 then some (TextMath.unp l0 a1) else none
theorem text_Cells.pos (n : Nat) (hn : n ≤ 9223372036854775807) : text_Cells.f (n : Int) = some (((n + 7) / 8 : Nat) : Int) := by
  unfold text_Cells.f
  by_cases h : n = 0
  · subst h
    rfl
  · rw [if_neg (by omega)]
    have e1 : wrap64 ((n : Int) - 1) = (n : Int) - 1 := by unfold wrap64; omega
    rw [e1, Int.tdiv_eq_ediv_of_nonneg (by omega)]
    congr 1
    unfold wrap64
    omega
set_option maxHeartbeats 1000000 in
theorem text_Unpack.neg (A0 : Option Addr) (c0 len : Nat) (a1 : Int) (w : World) (hn : a1 < 0) :
    Calls Try.prog 23 #[.slice A0 len c0, .int .i64 a1] w fun e w' => e = .returned (.tuple #[.string ⟨#[]⟩, .int .i64 1]) ∧ Below w.heap.size w w' := by
  go_enter Try.func23, Try.ntmps23
  go_wp2
  go_ret2
  exact ⟨rfl, Below.refl _ _⟩
set_option maxHeartbeats 1000000 in
theorem text_Unpack.ne (A0 : Option Addr) (c0 len n : Nat) (w : World) (hn : n ≤ 9223372036854775807) (hne : (n + 7) / 8 ≠ len) :
    Calls Try.prog 23 #[.slice A0 len c0, .int .i64 (n : Int)] w fun e w' => e = .returned (.tuple #[.string ⟨#[]⟩, .int .i64 1]) ∧ Below w.heap.size w w' := by
  have HC := Aside0.mk (text_Cells.pos n hn)
  obtain ⟨m, hm⟩ : ∃ m, m = (n + 7) / 8 := ⟨_, rfl⟩
  rw [← hm] at HC hne
  clear hm
  have hb : ((m : Int) != (len : Int)) = true := by simp; omega
  have hb2 : decide ((n : Int) < 0) = false := by simp
  clear hne
  go_enter Try.func23, Try.ntmps23
  go_wp2_with (go_at_call 15; (with_reducible refine (text_Cells.calls _ m _ HC.out).mono ?_); rintro e w' ⟨rfl, ⟨nd, rfl⟩⟩)
  go_ret2
  exact ⟨rfl, pw_below_drewN (Below.refl _ _) _⟩
set_option maxHeartbeats 2000000 in
theorem text_Unpack.eq (A0 : Option Addr) (c0 : Nat) (l0 : List Int) (n : Nat) (w : World) (hr0 : Kd.C (Kd.int .i64) w A0 l0.length l0) (hc0 : l0.length ≤ c0) (hl : l0.length * 8 ≤ 140737488351232) (hn : n ≤ 9223372036854775807) (hne : (n + 7) / 8 = l0.length) :
    Calls Try.prog 23 #[.slice A0 l0.length c0, .int .i64 (n : Int)] w fun e w' => e = .returned (.tuple #[.string (TextMath.unp l0 n).1, .int .i64 (TextMath.unp l0 n).2]) ∧ Below w.heap.size w w' := by
  have HC := Aside0.mk (text_Cells.pos n hn)
  rw [hne] at HC
  have hn8 : n ≤ 8 * l0.length := by omega
  have hunp : TextMath.unp l0 n = if ((TextMath.unb l0).drop n).all (· == 0) = true then (strOfNums ((TextMath.unb l0).take n), 0) else (⟨#[]⟩, 6) := by
    unfold TextMath.unp
    rw [if_neg (by omega)]
    simp only [Int.toNat_natCast]
  obtain ⟨ys, hys⟩ : ∃ ys, ys = (TextMath.unb l0).drop n := ⟨_, rfl⟩
  obtain ⟨zs, hzs⟩ : ∃ zs, zs = (TextMath.unb l0).take n := ⟨_, rfl⟩
  rw [← hys, ← hzs] at hunp
  rw [hunp]
  clear hunp hne
  have HY := Aside0.mk hys
  have HZ := Aside0.mk hzs
  clear hys hzs
  have HFIN : Aside0 ((ys.all (· == 0) = true → (if ys.all (· == 0) = true then (strOfNums zs, (0 : Int)) else (⟨#[]⟩, 6)) = (strOfNums zs, 0)) ∧ (ys.all (· == 0) = false → (if ys.all (· == 0) = true then (strOfNums zs, (0 : Int)) else (⟨#[]⟩, 6)) = (⟨#[]⟩, 6))) := ⟨⟨fun h => if_pos h, fun h => if_neg (by simp [h])⟩⟩
  obtain ⟨res, hres⟩ : ∃ res, res = (if ys.all (· == 0) = true then (strOfNums zs, (0 : Int)) else (⟨#[]⟩, 6)) := ⟨_, rfl⟩
  rw [← hres] at HFIN
  rw [← hres]
  clear hres
  have HR0 := Aside0.mk hr0
  clear hr0
  have hb : ((l0.length : Int) != (l0.length : Int)) = false := by simp
  have hb2 : decide ((n : Int) < 0) = false := by simp
  obtain ⟨c, hc⟩ : ∃ c, c = 8 * l0.length := ⟨_, rfl⟩
  have hce : (8 : Int) * (l0.length : Int) = (c : Int) := by omega
  have hmk := TextMath.run_make_cap 45 5 (.int .u8 0) 1 Try.underlying45 info5 rfl (by omega) c (by omega)
  have HCE := Aside0.mk hc
  clear hc
  go_enter Try.func23, Try.ntmps23
  go_wp2_with (go_at_call 15; (with_reducible refine (text_Cells.calls _ _ _ HC.out).mono ?_); rintro e w' ⟨rfl, ⟨nd, rfl⟩⟩)
  go_loopw [6, 28] (fun out i wr => ∃ j : Nat, j ≤ l0.length ∧ i = .int .i64 j ∧ Aside0 (Kd.R (Kd.int .u8) 5 wr w.heap.size (fun _ => True) out (TextMath.unb (l0.take j))) ∧ Aside0 (Below w.heap.size w wr)) (fun _ i _ => l0.length - (intOf i).toNat)
  case atStart =>
    refine ⟨0, by omega, rfl, ⟨?_⟩, ⟨?_⟩⟩
    · exact TextMath.R_empty (w.drewN nd) w.heap.size (Nat.le_refl _) (by simp only [maxLen]; have := HCE.out; omega) _ (TextMath.madeCells_size _ _)
    · exact below_alloc (pw_below_drewN (Below.refl _ _) nd) _
  case round =>
    obtain ⟨j, hj, rfl, HO, HB⟩ := hrel
    by_cases hlt : j < l0.length
    · obtain ⟨ad, rfl, hx⟩ := Kd.at_int HR0.out (j : Int) (by omega) (by omega)
      replace hx := (HB.out.cell (World.block_lt_of_cell? w _ hx)).trans hx
      simp only [Int.toNat_natCast] at hx
      obtain ⟨x, hxe⟩ : ∃ x, x = rd l0 j := ⟨_, rfl⟩
      rw [← hxe] at hx
      have HX := Aside0.mk hxe
      clear hxe
      have hjl : decide ((j : Int) < (l0.length : Int)) = true := by simp; omega
      go_wp2_with fail
      go_loopw [32] (fun i wr2 => ∃ q : Nat, q ≤ 8 ∧ i = .int .i64 q ∧ wr2 = wr.alloc (.cells (TextMath.fill8 x q) 44)) (fun i _ => 8 - (intOf i).toNat)
      case atStart => exact ⟨0, by omega, rfl, rfl⟩
      case round =>
        obtain ⟨q, hq, rfl, rfl⟩ := hrel
        by_cases hq8 : q < 8
        · obtain rfl | rfl | rfl | rfl | rfl | rfl | rfl | rfl : q = 0 ∨ q = 1 ∨ q = 2 ∨ q = 3 ∨ q = 4 ∨ q = 5 ∨ q = 6 ∨ q = 7 := by omega
          all_goals simp only [TextMath.fill8, TextMath.eight, TextMath.zeros8]
          all_goals go_wp2
          all_goals go_roundw
          case rel => exact ⟨1, by omega, by go_num, by simp [TextMath.fill8, TextMath.eight, TextMath.zeros8, TextMath.ub]⟩
          case measure => simp [intOf]
          case rel => exact ⟨2, by omega, by go_num, by simp [TextMath.fill8, TextMath.eight, TextMath.zeros8, TextMath.ub]⟩
          case measure => simp [intOf]
          case rel => exact ⟨3, by omega, by go_num, by simp [TextMath.fill8, TextMath.eight, TextMath.zeros8, TextMath.ub]⟩
          case measure => simp [intOf]
          case rel => exact ⟨4, by omega, by go_num, by simp [TextMath.fill8, TextMath.eight, TextMath.zeros8, TextMath.ub]⟩
          case measure => simp [intOf]
          case rel => exact ⟨5, by omega, by go_num, by simp [TextMath.fill8, TextMath.eight, TextMath.zeros8, TextMath.ub]⟩
          case measure => simp [intOf]
          case rel => exact ⟨6, by omega, by go_num, by simp [TextMath.fill8, TextMath.eight, TextMath.zeros8, TextMath.ub]⟩
          case measure => simp [intOf]
          case rel => exact ⟨7, by omega, by go_num, by simp [TextMath.fill8, TextMath.eight, TextMath.zeros8, TextMath.ub]⟩
          case measure => simp [intOf]
          case rel => exact ⟨8, by omega, by go_num, by simp [TextMath.fill8, TextMath.eight, TextMath.zeros8, TextMath.ub]⟩
          case measure => simp [intOf]
        · obtain rfl : q = 8 := by omega
          simp only [TextMath.fill8, TextMath.eight]
          have hsrc : ReadsInt (wr.alloc (.cells #[.int .u8 (TextMath.ub x 0), .int .u8 (TextMath.ub x 1), .int .u8 (TextMath.ub x 2), .int .u8 (TextMath.ub x 3), .int .u8 (TextMath.ub x 4), .int .u8 (TextMath.ub x 5), .int .u8 (TextMath.ub x 6), .int .u8 (TextMath.ub x 7)] 44)) .u8 (some ⟨wr.heap.size, 0, none⟩) 8 (TextMath.cellBytes x) := TextMath.reads_eight wr 44 x
          have HS := Aside0.mk hsrc
          clear hsrc
          go_wp2_with (at_builtin; refine Kd.R_append_row (Value.int .u8) 0 (w0 := w) w.heap.size rfl (.tmp 44) (.tmp 45) 45 5 (.int .u8 0) 1 rfl Try.underlying45 info5 rfl (by decide) u6 (TextMath.unb (l0.take j)) (TextMath.cellBytes x) (some ⟨wr.heap.size, 0, none⟩) 8 8 (fun _ => True) rfl rfl (fun _ _ => trivial) (Kd.R_alloc HO.out _) (Kd.C_of_reads (d := (0 : Int)) (h1 := fun _ => rfl) HS.out) (below_alloc HB.out _) (by have := below_size HB.out; simp; omega) (by rw [TextMath.unb_length, List.length_take]; omega) ?_)
          intro v1 w5 ho hb hg hat
          have HO1 := Aside0.mk ho
          have HB1 := Aside0.mk hb
          clear ho hb hg hat
          go_wp2
          go_roundw
          case rel =>
            refine ⟨j + 1, by omega, by go_num, ⟨?_⟩, HB1⟩
            rw [TextMath.unb_take_succ l0 j hlt, ← HX.out]
            exact HO1.out
          case measure =>
            simp [intOf]
            omega
    · obtain rfl : j = l0.length := by omega
      have hjl : decide ((l0.length : Int) < (l0.length : Int)) = false := by simp
      have HO' := HO.out
      rw [List.take_length] at HO'
      clear HO
      obtain ⟨A, cc, rfl, hlc, hC⟩ := Kd.R_reads HO'
      obtain ⟨i0, hi0, hzz⟩ := Option.map_eq_some_iff.1 info5
      simp only [Prod.mk.injEq] at hzz
      have hul : (TextMath.unb l0).length = 8 * l0.length := TextMath.unb_length l0
      have hRd := Kd.reads_of_C (enc := Value.int .u8) (d := (0 : Int)) (h1 := fun _ => rfl) hC
      obtain ⟨A2, hdrop, hdr, hdl⟩ := print_drop_of (P := Try.prog) (Value.int .u8) (0 : Int) 45 5 .i64 Try.underlying45 hi0 hzz.2.1 A cc (TextMath.unb l0) (n : Int) (by omega) (by omega) hlc
      obtain ⟨htake, htr, htl⟩ := print_take_of (P := Try.prog) (Value.int .u8) (0 : Int) 45 5 .i64 Try.underlying45 hi0 hzz.2.1 A cc (TextMath.unb l0) (n : Int) (by omega) (by omega) hlc
      simp only [Int.toNat_natCast] at hdrop hdr hdl htake htr htl
      have hst : ∀ m : Nat, (convert 45 9 (.slice A ((TextMath.unb l0).take n).length cc)).run Try.prog (wr.drewN m) = .ok (.string (strOfNums ((TextMath.unb l0).take n))) (wr.drewN m) := fun m =>
        string_of_reads Try.underlying45 Try.underlying5 Try.underlying9 (htr (wr.drewN m) hRd)
      have hst0 := hst 0
      have HD := Aside0.mk (hdr wr hRd)
      rw [← HY.out] at hdrop HD hdl
      rw [← HZ.out] at htake hst0
      rw [World.drewN_zero] at hst0
      clear hst hdr htr htl HO' hC hRd hul hi0 hzz
      go_wp2_with fail
      have hyl : ys.length ≤ 9223372036854775807 := HD.out.2.1
      go_loop [52] (fun i => ∃ q : Nat, q ≤ ys.length ∧ i = .int .i64 q ∧ Aside0 ((ys.take q).all (· == 0) = true)) (fun i => ys.length - (intOf i).toNat)
      case atStart => exact ⟨0, by omega, rfl, ⟨rfl⟩⟩
      case round =>
        obtain ⟨q, hq, rfl, HQ⟩ := hrel
        by_cases hq8 : q < ys.length
        · obtain ⟨ad, rfl, hx⟩ := HD.out.at_ (q : Int) (by omega) (by omega)
          simp only [Int.toNat_natCast] at hx
          obtain ⟨y, hye⟩ : ∃ y, y = rdOf (0 : Int) ys (q : Int) := ⟨_, rfl⟩
          rw [← hye] at hx
          have hsucc : ys.take (q + 1) = ys.take q ++ [y] := by
            rw [List.take_succ_eq_append_getElem hq8, hye]
            simp [rdOf, List.getD_eq_getElem?_getD, List.getElem?_eq_getElem hq8]
          have HSU := Aside0.mk hsucc
          clear hsucc hye
          by_cases hy0 : y = 0
          · subst hy0
            go_wp2
            go_round
            case rel => exact ⟨q + 1, by omega, by go_num, ⟨by rw [HSU.out, List.all_append, HQ.out]; rfl⟩⟩
            case measure => simp [intOf]; omega
          · have hfin : ys.all (· == 0) = false := by
              rw [← List.take_append_drop (q + 1) ys, List.all_append, HSU.out, List.all_append]
              simp [hy0]
            have HF2 := Aside0.mk (HFIN.out.2 hfin)
            clear hfin
            have hyb : (y != 0) = true := by simp [hy0]
            clear hy0
            go_wp2
            go_ret2
            exact ⟨by rw [HF2.out]; rfl, HB.out⟩
        · obtain rfl : q = ys.length := by omega
          have hfin := HQ.out
          rw [List.take_length] at hfin
          have HF1 := Aside0.mk (HFIN.out.1 hfin)
          clear hfin
          go_wp2
          go_ret2
          exact ⟨by rw [HF1.out]; rfl, HB.out⟩
theorem text_Unpack.calls (A0 : Option Addr) (c0 : Nat) (l0 : List Int) (a1 : Int) (r1 : ByteArray) (r2 : Int) (w : World) (hr0 : Kd.C (Kd.int .i64) w A0 l0.length l0) (hc0 : l0.length ≤ c0) (h : text_Unpack.f l0 a1 = some (r1, r2)) :
    Calls Try.prog 23 #[.slice A0 l0.length c0, .int .i64 a1] w fun e w' => e = .returned (.tuple #[.string r1, .int .i64 r2]) ∧ Below w.heap.size w w' := by
  unfold text_Unpack.f at h
  split at h
  · rename_i hs
    obtain ⟨hl, h1, h2⟩ := hs
    have hu := Option.some.inj h
    clear h
    by_cases hn : a1 < 0
    · have e : TextMath.unp l0 a1 = (⟨#[]⟩, 1) := by unfold TextMath.unp; rw [if_pos (.inl hn)]
      rw [e] at hu
      obtain ⟨rfl, rfl⟩ := Prod.mk.inj hu
      exact text_Unpack.neg A0 c0 l0.length a1 w hn
    · obtain ⟨n, rfl⟩ := Int.eq_ofNat_of_zero_le (show 0 ≤ a1 by omega)
      by_cases hne : (n + 7) / 8 = l0.length
      · have := text_Unpack.eq A0 c0 l0 n w hr0 hc0 hl (by omega) hne
        rw [hu] at this
        exact this
      · have e : TextMath.unp l0 n = (⟨#[]⟩, 1) := by unfold TextMath.unp; rw [if_pos (.inr (by omega))]
        rw [e] at hu
        obtain ⟨rfl, rfl⟩ := Prod.mk.inj hu
        exact text_Unpack.ne A0 c0 l0.length n w (by omega) hne
  · exact absurd h (by simp)

/-! ### heirloomref02_Unpack: function 24 -/
mutual
def heirloomref02_Unpack.j0 : Nat → List Int → Int → Bool → Option (ByteArray × Int)
  | 0, _, _, _ => none
  | k + 1, x0, x1, x26 => if x26 = true then (some ((⟨#[]⟩ : ByteArray), 1)) else (heirloomref02_Unpack.l0 k x0 x1 ([] : List Int) 0)
def heirloomref02_Unpack.l0 : Nat → List Int → Int → List Int → Int → Option (ByteArray × Int)
  | 0, _, _, _, _ => none
  | k + 1, x0, x1, x6, x7 => if x7 < (x0.length : Int) then (if 0 ≤ x7 then (heirloomref02_Unpack.l1 k x0 x1 x6 x7 (IntKind.u64.wrap (rd x0 x7)) 0) else (none)) else (heirloomref02_Unpack.l2 k x1 x6 x1)
def heirloomref02_Unpack.l1 : Nat → List Int → Int → List Int → Int → Int → Int → Option (ByteArray × Int)
  | 0, _, _, _, _, _, _ => none
  | k + 1, x0, x1, x6, x7, x8, x9 => if x9 < 8 then (if x6.length < 140737488355328 then (heirloomref02_Unpack.l1 k x0 x1 (x6 ++ [(Int.tmod x8 256) % 256]) x7 (IntKind.u64.wrap (Int.tdiv x8 256)) (wrap64 (x9 + 1))) else (none)) else (heirloomref02_Unpack.l0 k x0 x1 x6 (wrap64 (x7 + 1)))
def heirloomref02_Unpack.l2 : Nat → Int → List Int → Int → Option (ByteArray × Int)
  | 0, _, _, _ => none
  | k + 1, x1, x6, x10 => if x10 < (x6.length : Int) then (if 0 ≤ x10 then (if (rd x6 x10) = 0 then (heirloomref02_Unpack.l2 k x1 x6 (wrap64 (x10 + 1))) else (some ((⟨#[]⟩ : ByteArray), 6))) else (none)) else (if 0 ≤ x1 then (if x1 ≤ (x6.length : Int) then (some (strOfNums (x6.take (x1 : Int).toNat), 0)) else (none)) else (none))
end
def heirloomref02_Unpack.f (k : Nat) (l0 : List Int) (a1 : Int) : Option (ByteArray × Int) := if a1 < 0 then (heirloomref02_Unpack.j0 k l0 a1 true) else (if a1 > (wrap64 (8 * (l0.length : Int))) then (heirloomref02_Unpack.j0 k l0 a1 true) else ((heirloomref02_Cells.f k a1).bind fun t166 => (heirloomref02_Unpack.j0 k l0 a1 (t166 != (l0.length : Int)))))
theorem heirloomref02_Unpack.mono_l : ∀ k, (∀ y0 y1 y2, LeO (heirloomref02_Unpack.j0 k y0 y1 y2) (heirloomref02_Unpack.j0 (k + 1) y0 y1 y2)) ∧ (∀ y0 y1 y2 y3, LeO (heirloomref02_Unpack.l0 k y0 y1 y2 y3) (heirloomref02_Unpack.l0 (k + 1) y0 y1 y2 y3)) ∧ (∀ y0 y1 y2 y3 y4 y5, LeO (heirloomref02_Unpack.l1 k y0 y1 y2 y3 y4 y5) (heirloomref02_Unpack.l1 (k + 1) y0 y1 y2 y3 y4 y5)) ∧ (∀ y0 y1 y2, LeO (heirloomref02_Unpack.l2 k y0 y1 y2) (heirloomref02_Unpack.l2 (k + 1) y0 y1 y2))
  | 0 => ⟨fun _ _ _ r h => by simp [heirloomref02_Unpack.j0] at h, fun _ _ _ _ r h => by simp [heirloomref02_Unpack.l0] at h, fun _ _ _ _ _ _ r h => by simp [heirloomref02_Unpack.l1] at h, fun _ _ _ r h => by simp [heirloomref02_Unpack.l2] at h⟩
  | k + 1 => by
    obtain ⟨ih0, ih1, ih2, ih3⟩ := heirloomref02_Unpack.mono_l k
    refine ⟨?_, ?_, ?_, ?_⟩
    · intro y0 y1 y2
      unfold heirloomref02_Unpack.j0
      repeat' first
      | (with_reducible exact ih0 _ _ _)
      | (with_reducible exact ih1 _ _ _ _)
      | (with_reducible exact ih2 _ _ _ _ _ _)
      | (with_reducible exact ih3 _ _ _)
      | (with_reducible exact heirloomref02_Cells.mono _ _)
      | (with_reducible exact LeO.refl _)
      | (with_reducible exact LeO.none _)
      | (with_reducible refine LeO.ite ?_ ?_)
      | (with_reducible refine LeO.bind ?_ (fun _ => ?_))
      | exact ih0 _ _ _
      | exact ih1 _ _ _ _
      | exact ih2 _ _ _ _ _ _
      | exact ih3 _ _ _
      | exact heirloomref02_Cells.mono _ _
      | exact LeO.none _
      | refine LeO.ite ?_ ?_
      | refine LeO.bind ?_ (fun _ => ?_)
    · intro y0 y1 y2 y3
      unfold heirloomref02_Unpack.l0
      repeat' first
      | (with_reducible exact ih0 _ _ _)
      | (with_reducible exact ih1 _ _ _ _)
      | (with_reducible exact ih2 _ _ _ _ _ _)
      | (with_reducible exact ih3 _ _ _)
      | (with_reducible exact heirloomref02_Cells.mono _ _)
      | (with_reducible exact LeO.refl _)
      | (with_reducible exact LeO.none _)
      | (with_reducible refine LeO.ite ?_ ?_)
      | (with_reducible refine LeO.bind ?_ (fun _ => ?_))
      | exact ih0 _ _ _
      | exact ih1 _ _ _ _
      | exact ih2 _ _ _ _ _ _
      | exact ih3 _ _ _
      | exact heirloomref02_Cells.mono _ _
      | exact LeO.none _
      | refine LeO.ite ?_ ?_
      | refine LeO.bind ?_ (fun _ => ?_)
    · intro y0 y1 y2 y3 y4 y5
      unfold heirloomref02_Unpack.l1
      repeat' first
      | (with_reducible exact ih0 _ _ _)
      | (with_reducible exact ih1 _ _ _ _)
      | (with_reducible exact ih2 _ _ _ _ _ _)
      | (with_reducible exact ih3 _ _ _)
      | (with_reducible exact heirloomref02_Cells.mono _ _)
      | (with_reducible exact LeO.refl _)
      | (with_reducible exact LeO.none _)
      | (with_reducible refine LeO.ite ?_ ?_)
      | (with_reducible refine LeO.bind ?_ (fun _ => ?_))
      | exact ih0 _ _ _
      | exact ih1 _ _ _ _
      | exact ih2 _ _ _ _ _ _
      | exact ih3 _ _ _
      | exact heirloomref02_Cells.mono _ _
      | exact LeO.none _
      | refine LeO.ite ?_ ?_
      | refine LeO.bind ?_ (fun _ => ?_)
    · intro y0 y1 y2
      unfold heirloomref02_Unpack.l2
      repeat' first
      | (with_reducible exact ih0 _ _ _)
      | (with_reducible exact ih1 _ _ _ _)
      | (with_reducible exact ih2 _ _ _ _ _ _)
      | (with_reducible exact ih3 _ _ _)
      | (with_reducible exact heirloomref02_Cells.mono _ _)
      | (with_reducible exact LeO.refl _)
      | (with_reducible exact LeO.none _)
      | (with_reducible refine LeO.ite ?_ ?_)
      | (with_reducible refine LeO.bind ?_ (fun _ => ?_))
      | exact ih0 _ _ _
      | exact ih1 _ _ _ _
      | exact ih2 _ _ _ _ _ _
      | exact ih3 _ _ _
      | exact heirloomref02_Cells.mono _ _
      | exact LeO.none _
      | refine LeO.ite ?_ ?_
      | refine LeO.bind ?_ (fun _ => ?_)
theorem heirloomref02_Unpack.mono : ∀ a0 a1 k, LeO (heirloomref02_Unpack.f k a0 a1) (heirloomref02_Unpack.f (k + 1) a0 a1) := by
  intro a0 a1 k
  obtain ⟨ih0, ih1, ih2, ih3⟩ := heirloomref02_Unpack.mono_l k
  unfold heirloomref02_Unpack.f
  repeat' first
      | (with_reducible exact ih0 _ _ _)
      | (with_reducible exact ih1 _ _ _ _)
      | (with_reducible exact ih2 _ _ _ _ _ _)
      | (with_reducible exact ih3 _ _ _)
      | (with_reducible exact heirloomref02_Cells.mono _ _)
      | (with_reducible exact LeO.refl _)
      | (with_reducible exact LeO.none _)
      | (with_reducible refine LeO.ite ?_ ?_)
      | (with_reducible refine LeO.bind ?_ (fun _ => ?_))
      | exact ih0 _ _ _
      | exact ih1 _ _ _ _
      | exact ih2 _ _ _ _ _ _
      | exact ih3 _ _ _
      | exact heirloomref02_Cells.mono _ _
      | exact LeO.none _
      | refine LeO.ite ?_ ?_
      | refine LeO.bind ?_ (fun _ => ?_)
set_option maxHeartbeats 8000000 in
set_option maxRecDepth 100000 in
theorem heirloomref02_Unpack.calls (k : Nat) (A0 : Option Addr) (c0 : Nat) (l0 : List Int) (a1 : Int) (r1 : ByteArray) (r2 : Int) (w : World) (hr0 : Kd.C (Kd.int .i64) w A0 l0.length l0) (hc0 : l0.length ≤ c0) (h : heirloomref02_Unpack.f k l0 a1 = some (r1, r2)) :
    Calls Try.prog 24 #[.slice A0 l0.length c0, .int .i64 a1] w fun e w' => e = .returned (.tuple #[.string r1, .int .i64 r2]) ∧ Below w.heap.size w w' := by
  have HR0 := Aside0.mk hr0
  have HC0 := Aside0.mk hc0
  clear hr0 hc0
  have HB := Aside0.mk (Below.refl w.heap.size w)
  have H : (if a1 < 0 then (heirloomref02_Unpack.j0 k l0 a1 true) else (if a1 > (wrap64 (8 * (l0.length : Int))) then (heirloomref02_Unpack.j0 k l0 a1 true) else ((heirloomref02_Cells.f k a1).bind fun t166 => (heirloomref02_Unpack.j0 k l0 a1 (t166 != (l0.length : Int)))))) = some (r1, r2) := h
  clear h
  have HC3 := Aside0.mk H
  clear H
  go_enter Try.func24, Try.ntmps24
  go_upto_region 1 with (fail)
  go_cut [26] (fun v26 wc => ∃ (kq : Nat) (x26_2 : Bool), v26 = .bool x26_2 ∧ Aside0 (heirloomref02_Unpack.j0 kq l0 a1 x26_2 = some (r1, r2)) ∧ Aside0 (kq ≤ k) ∧ Aside0 (Below w.heap.size w wc))
  case first =>
    have H := HC3.out
    clear HC3
    by_cases c4 : a1 < 0
    · rw [if_pos c4] at H
      have c4b0 : decide (a1 < 0) = true := decide_eq_true c4
      clear c4
      (first | rw [c4b0] | (simp only [i64_w, i32_w]; rw [c4b0]) | skip)
      have H' := Aside0.mk H
      clear H
      go_wp2
      go_meet
      case rel => exact ⟨_, (true), (by first | rfl | (simp; done) | (simp [*]; done)), H', ⟨by first | omega | exact Nat.le_refl _⟩, ⟨by repeat (first | (with_reducible first | exact HB.out | apply below_alloc | apply pw_below_drewN | apply below_drew1) | exact HB.out)⟩⟩
    · rw [if_neg c4] at H
      have c4b0 : decide (a1 < 0) = false := decide_eq_false c4
      clear c4
      (first | rw [c4b0] | (simp only [i64_w, i32_w]; rw [c4b0]) | skip)
      by_cases c5 : a1 > (wrap64 (8 * (l0.length : Int)))
      · rw [if_pos c5] at H
        have c5b0 : decide ((wrap64 (8 * (l0.length : Int))) < a1) = true := decide_eq_true c5
        clear c5
        have H' := Aside0.mk H
        clear H
        go_wp2
        go_meet
        case rel => exact ⟨_, (true), (by first | rfl | (simp; done) | (simp [*]; done)), H', ⟨by first | omega | exact Nat.le_refl _⟩, ⟨by repeat (first | (with_reducible first | exact HB.out | apply below_alloc | apply pw_below_drewN | apply below_drew1) | exact HB.out)⟩⟩
      · rw [if_neg c5] at H
        have c5b0 : decide ((wrap64 (8 * (l0.length : Int))) < a1) = false := decide_eq_false c5
        clear c5
        replace H := Option.bind_eq_some_iff.mp H
        obtain ⟨t166, A60, H⟩ := H
        replace H : (heirloomref02_Unpack.j0 k l0 a1 (t166 != (l0.length : Int))) = some (r1, r2) := H
        have A6 := Aside0.mk A60
        clear A60
        have H' := Aside0.mk H
        clear H
        go_wp2_with (first | (go_at_call 16; (with_reducible refine (heirloomref02_Cells.calls k a1 t166 _ A6.out).mono ?_); rintro e w' ⟨rfl, ⟨nd, rfl⟩⟩))
        go_meet
        case rel => exact ⟨_, ((t166 != (l0.length : Int))), (by first | rfl | (simp; done) | (simp [*]; done)), H', ⟨by first | omega | exact Nat.le_refl _⟩, ⟨by repeat (first | (with_reducible first | exact HB.out | apply below_alloc | apply pw_below_drewN | apply below_drew1) | exact HB.out)⟩⟩
  case rest =>
    clear HC3
    try clear c2
    try clear p2
    try clear c4
    try clear c4b0
    try clear c5
    try clear c5b0
    try clear p6
    obtain ⟨kq, x26_2, rfl, HA, HJ2, HB⟩ := hcut
    cases kq with
    | zero => exact absurd HA.out (by simp [heirloomref02_Unpack.j0])
    | succ kj2 =>
      have H := HA.out
      clear HA
      simp only [heirloomref02_Unpack.j0] at H
      by_cases c7 : x26_2 = true
      · subst c7
        have H1 : (some ((⟨#[]⟩ : ByteArray), 1)) = some (r1, r2) := by rw [if_pos rfl] at H; exact H
        clear H
        have H := H1
        clear H1
        simp only [Option.some.injEq, Prod.mk.injEq] at H
        obtain ⟨rfl, rfl⟩ := H
        go_wp2
        go_ret2
        exact ⟨by first | rfl | (simp [errW_none, errW_some] <;> rfl) | (simp [*, errW_none, errW_some] <;> rfl), by repeat (first | (with_reducible first | exact HB.out | apply below_alloc | apply pw_below_drewN | apply below_drew1) | exact HB.out)⟩
      · replace c7 := Bool.eq_false_iff.mpr c7
        subst c7
        have H1 : (heirloomref02_Unpack.l0 kj2 l0 a1 ([] : List Int) 0) = some (r1, r2) := by rw [if_neg (show ¬ (false = true) by decide)] at H; exact H
        clear H
        have H := H1
        clear H1
        have H' := Aside0.mk H
        clear H
        go_wp2
        go_loopg [6, 7] kj2 (fun kq v6 v7 w' => ∃ (x6_2 : List Int) (x7_2 : Int), v7 = .int .i64 x7_2 ∧ Aside0 (heirloomref02_Unpack.l0 kq l0 a1 x6_2 x7_2 = some (r1, r2)) ∧ Aside0 (kq ≤ kj2) ∧ Aside0 (Kd.R (Kd.int .u8) 5 w' w.heap.size (fun _ => True) v6 x6_2) ∧ Aside0 (Below w.heap.size w w'))
        case atStart => exact ⟨(([] : List Int)), (0), (by first | rfl | (simp; done) | (simp [*]; done)), H', ⟨Nat.le_refl _⟩, ⟨by first | exact Kd.R_nil _ _ _ _ _ | exact Kd.N_nil _ _ _ _ _ | exact Kd.V_nil _ _ _ _ _ | exact Kd.Q_nil _ _ _ _ _ | exact Kd.S_nil _ _ _ _ _⟩, ⟨by repeat (first | (with_reducible first | exact HB.out | apply below_alloc | apply pw_below_drewN | apply below_drew1) | exact HB.out)⟩⟩
        case round =>
          clear H'
          try clear c2
          try clear p2
          try clear c4
          try clear c4b0
          try clear c5
          try clear c5b0
          try clear p6
          try clear c7
          try clear p2
          try clear p6
          obtain ⟨x6_2, x7_2, rfl, HA, HK2, HO_6, HB⟩ := hrel
          cases gk with
          | zero => exact absurd HA.out (by simp [heirloomref02_Unpack.l0])
          | succ k2 =>
            have H := HA.out
            clear HA
            simp only [heirloomref02_Unpack.l0] at H
            by_cases c8 : x7_2 < (l0.length : Int)
            · rw [if_pos c8] at H
              have c8b0 : decide (x7_2 < (l0.length : Int)) = true := decide_eq_true c8
              clear c8
              by_cases c9 : 0 ≤ x7_2
              · rw [if_pos c9] at H
                have c9b0 : decide (0 ≤ x7_2) = true := decide_eq_true c9
                clear c9
                have H' := Aside0.mk H
                clear H
                have p167 : 0 ≤ (x7_2 : Int) := of_decide_eq_true (by first | (with_reducible assumption) | assumption)
                have q167 : x7_2 < (l0.length : Int) := of_decide_eq_true (by first | (with_reducible assumption) | assumption)
                obtain ⟨ad167, e167, hx167_0⟩ := Kd.at_int HR0.out x7_2 p167 q167
                cases e167
                replace hx167_0 := (HB.out.cell (World.block_lt_of_cell? w _ hx167_0)).trans hx167_0
                replace p167 := eq_true p167
                replace q167 := eq_true q167
                go_wp2
                go_loopg [6, 8, 9] k2 (fun kq v6 v8 v9 w' => ∃ (x6_3 : List Int) (x8_3 : Int) (x9_3 : Int), v8 = .int .u64 x8_3 ∧ v9 = .int .i64 x9_3 ∧ Aside0 (heirloomref02_Unpack.l1 kq l0 a1 x6_3 x7_2 x8_3 x9_3 = some (r1, r2)) ∧ Aside0 (kq ≤ k2) ∧ Aside0 (Kd.R (Kd.int .u8) 5 w' w.heap.size (fun _ => True) v6 x6_3) ∧ Aside0 (Below w.heap.size w w'))
                case atStart => exact ⟨(x6_2), (IntKind.u64.wrap (rd l0 x7_2)), (0), (by first | rfl | (simp; done) | (simp [*]; done)), (by first | rfl | (simp; done) | (simp [*]; done)), H', ⟨Nat.le_refl _⟩, ⟨by (with_reducible repeat (first | apply Kd.R_alloc | apply Kd.R_drewN | apply Kd.R_drew)); exact HO_6.out⟩, ⟨by repeat (first | (with_reducible first | exact HB.out | apply below_alloc | apply pw_below_drewN | apply below_drew1) | exact HB.out)⟩⟩
                case round =>
                  clear H'
                  try clear p1
                  try clear q1
                  try clear hx1
                  try clear c2
                  try clear p2
                  try clear c4
                  try clear c4b0
                  try clear c5
                  try clear c5b0
                  try clear p6
                  try clear c7
                  try clear c8
                  try clear c8b0
                  try clear c9
                  try clear c9b0
                  try clear hx167_0
                  try clear p167
                  try clear p2
                  try clear p6
                  try clear q167
                  obtain ⟨x6_3, x8_3, x9_3, rfl, rfl, HA, HK3, HO_6, HB⟩ := hrel
                  cases gk with
                  | zero => exact absurd HA.out (by simp [heirloomref02_Unpack.l1])
                  | succ k3 =>
                    have H := HA.out
                    clear HA
                    simp only [heirloomref02_Unpack.l1] at H
                    by_cases c10 : x9_3 < 8
                    · rw [if_pos c10] at H
                      have c10b0 : decide (x9_3 < 8) = true := decide_eq_true c10
                      clear c10
                      by_cases c11 : x6_3.length < 140737488355328
                      · rw [if_pos c11] at H
                        have LMc11 := Aside0.mk c11
                        clear c11
                        obtain ⟨y168, hy168⟩ : ∃ y_ : List Int, y_ = (x6_3 ++ [(Int.tmod x8_3 256) % 256]) := ⟨_, rfl⟩
                        replace H : (heirloomref02_Unpack.l1 k3 l0 a1 y168 x7_2 (IntKind.u64.wrap (Int.tdiv x8_3 256)) (wrap64 (x9_3 + 1))) = some (r1, r2) := by first | (rw [hy168]; with_reducible exact H) | (have H2_ := (Option.bind_some _ _).symm.trans H; rw [hy168]; with_reducible exact H2_) | (have H2_ := (Option.bind_some _ _).symm.trans H; with_reducible exact H2_) | with_reducible exact H | (rw [hy168]; exact H) | exact H
                        have Ny168 := Aside0.mk hy168
                        clear hy168
                        have H' := Aside0.mk H
                        clear H
                        go_wp2_with (first | ((with_reducible refine gate_builtin (b := .append) (xs := #[.tmp 42, .tmp 46]) rfl ?_); (try (refine gate_guard (by rfl) ?_; dsimp only)); at_builtin; refine Kd.R_append (Kd.int .u8) (w0 := w) w.heap.size rfl (.tmp 42) (.tmp 46) 45 5 (.int .u8 0) 1 rfl Try.underlying45 info5 rfl (by decide) (by omega) u6 x6_3 ((Int.tmod x8_3 256) % 256) [.int .u8 ((Int.tmod x8_3 256) % 256)] (fun _ => True) (fun _ => False) rfl rfl ?aP (fun _ hk => hk.elim) ?aF ?aO ?aB ?aS ?aL ?_; (case aP => exact rfl); (case aB => exact (by repeat (first | (with_reducible first | exact HB.out | apply below_alloc | apply pw_below_drewN | apply below_drew1) | exact HB.out))); (case aF => exact (fun _ _ => trivial)); (case aO => exact (by (with_reducible repeat (first | apply Kd.R_alloc | apply Kd.R_drewN | apply Kd.R_drew)); exact HO_6.out)); (case aS => exact (below_size (by repeat (first | (with_reducible first | exact HB.out | apply below_alloc | apply pw_below_drewN | apply below_drew1) | exact HB.out)))); (case aL => have := LMc11.out; omega); intro v169 w12 ho hb hg hat; rw [← Ny168.out] at ho; have n0_ := Aside0.mk (hb); have n1_ := Aside0.mk (ho); clear HB; clear HO_6; have HB := n0_; have HO170 := n1_; clear n0_ n1_; clear ho hb hg hat))
                        go_roundg k3
                        case measure => have := HJ2.out; have := HK2.out; have := HK3.out; omega
                        case rel => exact ⟨(y168), (IntKind.u64.wrap (Int.tdiv x8_3 256)), (wrap64 (x9_3 + 1)), (by first | rfl | (simp; done) | (simp [*]; done)), (by first | rfl | (simp; done) | (simp [*]; done)), H', ⟨by have := HJ2.out; have := HK2.out; have := HK3.out; omega⟩, ⟨by (with_reducible repeat (first | apply Kd.R_alloc | apply Kd.R_drewN | apply Kd.R_drew)); exact HO170.out⟩, ⟨by repeat (first | (with_reducible first | exact HB.out | apply below_alloc | apply pw_below_drewN | apply below_drew1) | exact HB.out)⟩⟩
                      · rw [if_neg c11] at H
                        exact absurd H (by simp)
                    · rw [if_neg c10] at H
                      have c10b0 : decide (x9_3 < 8) = false := decide_eq_false c10
                      clear c10
                      have H' := Aside0.mk H
                      clear H
                      go_wp2
                      go_roundg k3
                      case measure => have := HJ2.out; have := HK2.out; have := HK3.out; omega
                      case rel => exact ⟨(x6_3), (wrap64 (x7_2 + 1)), (by first | rfl | (simp; done) | (simp [*]; done)), H', ⟨by have := HJ2.out; have := HK2.out; have := HK3.out; omega⟩, ⟨by (with_reducible repeat (first | apply Kd.R_alloc | apply Kd.R_drewN | apply Kd.R_drew)); exact HO_6.out⟩, ⟨by repeat (first | (with_reducible first | exact HB.out | apply below_alloc | apply pw_below_drewN | apply below_drew1) | exact HB.out)⟩⟩
              · rw [if_neg c9] at H
                exact absurd H (by simp)
            · rw [if_neg c8] at H
              have c8b0 : decide (x7_2 < (l0.length : Int)) = false := decide_eq_false c8
              clear c8
              have H' := Aside0.mk H
              clear H
              go_wp2
              go_loopg [10] k2 (fun kq v10 w' => ∃ (x10_3 : Int), v10 = .int .i64 x10_3 ∧ Aside0 (heirloomref02_Unpack.l2 kq a1 x6_2 x10_3 = some (r1, r2)) ∧ Aside0 (kq ≤ k2) ∧ Aside0 (Kd.R (Kd.int .u8) 5 w' w.heap.size (fun _ => True) u6 x6_2) ∧ Aside0 (Below w.heap.size w w'))
              case atStart => exact ⟨(a1), (by first | rfl | (simp; done) | (simp [*]; done)), H', ⟨Nat.le_refl _⟩, ⟨by (with_reducible repeat (first | apply Kd.R_alloc | apply Kd.R_drewN | apply Kd.R_drew)); exact HO_6.out⟩, ⟨by repeat (first | (with_reducible first | exact HB.out | apply below_alloc | apply pw_below_drewN | apply below_drew1) | exact HB.out)⟩⟩
              case round =>
                clear H'
                try clear c1
                try clear p1
                try clear q1
                try clear hx1
                try clear c2
                try clear p2
                try clear c4
                try clear c4b0
                try clear c5
                try clear c5b0
                try clear p6
                try clear c7
                try clear c8
                try clear c8b0
                try clear c9
                try clear c9b0
                try clear c10
                try clear c10b0
                try clear c11
                try clear hx167_0
                try clear p1
                try clear p167
                try clear p2
                try clear p6
                try clear q1
                try clear q167
                obtain ⟨x10_3, rfl, HA, HK3, HO_6, HB⟩ := hrel
                cases gk with
                | zero => exact absurd HA.out (by simp [heirloomref02_Unpack.l2])
                | succ k3 =>
                  have H := HA.out
                  clear HA
                  simp only [heirloomref02_Unpack.l2] at H
                  by_cases c13 : x10_3 < (x6_2.length : Int)
                  · rw [if_pos c13] at H
                    have c13b0 : decide (x10_3 < (x6_2.length : Int)) = true := decide_eq_true c13
                    clear c13
                    by_cases c14 : 0 ≤ x10_3
                    · rw [if_pos c14] at H
                      have c14b0 : decide (0 ≤ x10_3) = true := decide_eq_true c14
                      clear c14
                      by_cases c15 : (rd x6_2 x10_3) = 0
                      · rw [if_pos c15] at H
                        have c15b0 : ((rd x6_2 x10_3) == 0) = true := beq_iff_eq.mpr c15
                        have c15b1 : ((rd x6_2 x10_3) != 0) = false := bne_eq_false_iff_eq.mpr c15
                        clear c15
                        have H' := Aside0.mk H
                        clear H
                        obtain ⟨Ao16, co16, eo16⟩ := Kd.R_slice HO_6.out
                        subst eo16
                        have p171 : 0 ≤ (x10_3 : Int) := of_decide_eq_true (by first | (with_reducible assumption) | assumption)
                        have q171 : x10_3 < (x6_2.length : Int) := of_decide_eq_true (by first | (with_reducible assumption) | assumption)
                        obtain ⟨ad171, e171, hx171_0⟩ := Kd.at_int (Kd.R_reads' HO_6.out).2.2 x10_3 p171 q171
                        cases e171
                        replace p171 := eq_true p171
                        replace q171 := eq_true q171
                        go_wp2
                        go_roundg k3
                        case measure => have := HJ2.out; have := HK2.out; have := HK3.out; omega
                        case rel => exact ⟨(wrap64 (x10_3 + 1)), (by first | rfl | (simp; done) | (simp [*]; done)), H', ⟨by have := HJ2.out; have := HK2.out; have := HK3.out; omega⟩, ⟨by (with_reducible repeat (first | apply Kd.R_alloc | apply Kd.R_drewN | apply Kd.R_drew)); exact HO_6.out⟩, ⟨by repeat (first | (with_reducible first | exact HB.out | apply below_alloc | apply pw_below_drewN | apply below_drew1) | exact HB.out)⟩⟩
                      · rw [if_neg c15] at H
                        have c15b0 : ((rd x6_2 x10_3) == 0) = false := beq_eq_false_iff_ne.mpr c15
                        have c15b1 : ((rd x6_2 x10_3) != 0) = true := bne_iff_ne.mpr c15
                        simp only [Option.some.injEq, Prod.mk.injEq] at H
                        obtain ⟨rfl, rfl⟩ := H
                        obtain ⟨Ao17, co17, eo17⟩ := Kd.R_slice HO_6.out
                        subst eo17
                        have p171 : 0 ≤ (x10_3 : Int) := of_decide_eq_true (by first | (with_reducible assumption) | assumption)
                        have q171 : x10_3 < (x6_2.length : Int) := of_decide_eq_true (by first | (with_reducible assumption) | assumption)
                        obtain ⟨ad171, e171, hx171_0⟩ := Kd.at_int (Kd.R_reads' HO_6.out).2.2 x10_3 p171 q171
                        cases e171
                        replace p171 := eq_true p171
                        replace q171 := eq_true q171
                        go_wp2
                        go_ret2
                        exact ⟨by first | rfl | (simp [errW_none, errW_some] <;> rfl) | (simp [*, errW_none, errW_some] <;> rfl), by repeat (first | (with_reducible first | exact HB.out | apply below_alloc | apply pw_below_drewN | apply below_drew1) | exact HB.out)⟩
                    · rw [if_neg c14] at H
                      exact absurd H (by simp)
                  · rw [if_neg c13] at H
                    have c13b0 : decide (x10_3 < (x6_2.length : Int)) = false := decide_eq_false c13
                    clear c13
                    by_cases c18 : 0 ≤ a1
                    · rw [if_pos c18] at H
                      have c18b0 := eq_true c18
                      have c18b1 : decide (0 ≤ a1) = true := decide_eq_true c18
                      clear c18
                      by_cases c19 : a1 ≤ (x6_2.length : Int)
                      · rw [if_pos c19] at H
                        have c19b0 := eq_true c19
                        have c19b1 : decide (a1 ≤ (x6_2.length : Int)) = true := decide_eq_true c19
                        clear c19
                        obtain ⟨y172, hy172⟩ : ∃ y_ : List Int, y_ = (x6_2.take (a1 : Int).toNat) := ⟨_, rfl⟩
                        replace H : (some (strOfNums y172, 0)) = some (r1, r2) := by first | (rw [hy172]; with_reducible exact H) | (have H2_ := (Option.bind_some _ _).symm.trans H; rw [hy172]; with_reducible exact H2_) | (have H2_ := (Option.bind_some _ _).symm.trans H; with_reducible exact H2_) | with_reducible exact H | (rw [hy172]; exact H) | exact H
                        have Ny172 := Aside0.mk hy172
                        clear hy172
                        simp only [Option.some.injEq, Prod.mk.injEq] at H
                        obtain ⟨rfl, rfl⟩ := H
                        obtain ⟨Ao20, co20, eo20⟩ := Kd.R_slice HO_6.out
                        subst eo20
                        have q21 : (a1 : Int) ≤ ((x6_2.length : Int) : Int) := of_decide_eq_true (by first | (with_reducible assumption) | assumption)
                        obtain ⟨i021, hi021, _, hsz21, _⟩ := info_parts info5
                        have hroom21 : x6_2.length ≤ co20 := (Kd.R_reads' HO_6.out).2.1
                        have hC21 : Kd.C (Kd.int .u8) _ Ao20 x6_2.length x6_2 := (Kd.R_reads' HO_6.out).2.2
                        have hcut21 := cut_to (P := Try.prog) 45 5 .i64 Try.underlying45 hi021 Ao20 x6_2.length co20 a1 (of_decide_eq_true (by first | (with_reducible assumption) | assumption)) q21 hroom21
                        have hr21 := Kd.C_take (m := (a1 : Int).toNat) hC21 (by omega)
                        have hy21 : y172.length = (a1 : Int).toNat := (by rw [Ny172.out, List.length_take]; omega)
                        rw [← Ny172.out] at hr21
                        rw [← hy21] at hcut21
                        have HR175 := Aside0.mk hr21
                        have HC175 := Aside0.mk (show y172.length ≤ co20 from by omega)
                        clear hr21 hC21 hroom21 hi021 hsz21
                        have KY21 := Aside0.mk hy21
                        clear hy21
                        have KL21 := Aside0.mk (show (a1 : Int).toNat ≤ x6_2.length from by omega)
                        replace q21 := eq_true q21
                        have hcv22 := Kd.C_string (P := Try.prog) (A := Ao20) (c := co20) Try.underlying45 Try.underlying5 Try.underlying9 (by repeat (first | (with_reducible exact HR175.out) | (with_reducible refine Kd.C_alloc ?_ _) | (with_reducible refine Kd.C_drewN ?_ _) | (with_reducible refine Kd.C_drew ?_) | exact HR175.out))
                        go_wp2
                        go_ret2
                        exact ⟨by first | rfl | (simp [errW_none, errW_some] <;> rfl) | (simp [*, errW_none, errW_some] <;> rfl), by repeat (first | (with_reducible first | exact HB.out | apply below_alloc | apply pw_below_drewN | apply below_drew1) | exact HB.out)⟩
                      · rw [if_neg c19] at H
                        exact absurd H (by simp)
                    · rw [if_neg c18] at H
                      exact absurd H (by simp)

/-! ### heirloomlaw02_no: function 25 -/
def heirloomlaw02_no.f (a0 : Int) : Option (Int) := some a0
set_option maxHeartbeats 8000000 in
set_option maxRecDepth 100000 in
theorem heirloomlaw02_no.calls (a0 : Int) (r : Int) (w : World) (h : heirloomlaw02_no.f a0 = some r) :
    Calls Try.prog 25 #[.int .i64 a0] w fun e w' => e = .returned (.int .i64 r) ∧ Drawn0 w w' := by
  have H : (some a0) = some r := h
  clear h
  obtain rfl := Option.some.inj H
  go_enter Try.func25, Try.ntmps25
  go_wp2
  go_ret
  exact ⟨by first | rfl | (simp; done) | (simp [*]; done), by repeat (first | exact Drawn0.refl _ | apply Drawn0.step)⟩

end Go.Proofs.Ytllchgoppogibaa.Print
