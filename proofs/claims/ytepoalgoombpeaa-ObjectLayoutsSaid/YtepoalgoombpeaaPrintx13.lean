/- PROVED: each Lean function of this text answers as the Go function of its name does. Conditions: none beyond what each theorem states. (Written by the session's own program xprint.py.) -/
import Derived.Test.YtepoalgoombpeaaPrintx0
namespace Go.Proofs.Ytepoalgoombpeaa.Print
open Go.RowKit Go.Proofs.YtepoalgoombpeaaW.PrintWords Go.Proofs.YtepoalgoombpeaaW.PrintLast Go.Proofs.YtepoalgoombpeaaW.PrintMore
attribute [local go_sem] max2_int min2_int max_two min_two max_three min_three max_four min_four   -- for this text's walks alone
set_option linter.unusedVariables false
set_option linter.unusedSimpArgs false

/-! ### text_Cells: function 58 -/
def text_Cells.f (a0 : Int) : Option (Int) := if a0 < 1 then (some 0) else (some (wrap64 ((wrap64 (Int.tdiv (wrap64 (a0 - 1)) 8)) + 1)))
set_option maxHeartbeats 8000000 in
set_option maxRecDepth 100000 in
theorem text_Cells.calls (a0 : Int) (r : Int) (w : World) (h : text_Cells.f a0 = some r) :
  Calls Try.prog 58 #[.int .i64 a0] w fun e w' => e = .returned (.int .i64 r) ∧ Drawn0 w w' := by
 have H : (if a0 < 1 then (some 0) else (some (wrap64 ((wrap64 (Int.tdiv (wrap64 (a0 - 1)) 8)) + 1)))) = some r := h
 clear h
 by_cases c2 : a0 < 1
 ·rw [if_pos c2] at H
  have c2b0 : decide (a0 < 1) = true := decide_eq_true c2
  clear c2
  obtain rfl := Option.some.inj H
  go_enter Try.func58, Try.ntmps58
  go_wp2
  go_ret
  exact ⟨by first | rfl | (simp; done) | (simp [*]; done), by repeat (first | exact Drawn0.refl _ | apply Drawn0.step)⟩
 ·rw [if_neg c2] at H
  have c2b0 : decide (a0 < 1) = false := decide_eq_false c2
  clear c2
  obtain rfl := Option.some.inj H
  go_enter Try.func58, Try.ntmps58
  go_wp2
  go_ret
  exact ⟨by first | rfl | (simp; done) | (simp [*]; done), by repeat (first | exact Drawn0.refl _ | apply Drawn0.step)⟩

/-! ### text_Unpack: function 56 -/
def text_Unpack.f (l0 : List Int) (a1 : Int) : Option (ByteArray × Int) := if l0.length * 8 ≤ 140737488351232 ∧ -9223372036854775808 ≤ a1 ∧ a1 ≤ 9223372036854775807 then some (TextMath.unp l0 a1) else none
theorem text_Cells.pos (n : Nat) (hn : n ≤ 9223372036854775807) : text_Cells.f (n : Int) = some (((n + 7) / 8 : Nat) : Int) := by
  unfold text_Cells.f
  by_cases h : n = 0
  · subst h
    rfl
  · rw [if_neg (by omega)]
    have e1 : wrap64 ((n : Int) - 1) = (n : Int) - 1 := by unfold wrap64; omega
    rw [e1, Int.tdiv_eq_ediv_of_nonneg (by omega)]
    congr 1
    unfold wrap64
    omega
set_option maxHeartbeats 1000000 in
theorem text_Unpack.neg (A0 : Option Addr) (c0 len : Nat) (a1 : Int) (w : World) (hn : a1 < 0) :
    Calls Try.prog 56 #[.slice A0 len c0, .int .i64 a1] w fun e w' => e = .returned (.tuple #[.string ⟨#[]⟩, .int .i64 1]) ∧ Below w.heap.size w w' := by
  go_enter Try.func56, Try.ntmps56
  go_wp2
  go_ret2
  exact ⟨rfl, Below.refl _ _⟩
set_option maxHeartbeats 1000000 in
theorem text_Unpack.ne (A0 : Option Addr) (c0 len n : Nat) (w : World) (hn : n ≤ 9223372036854775807) (hne : (n + 7) / 8 ≠ len) :
    Calls Try.prog 56 #[.slice A0 len c0, .int .i64 (n : Int)] w fun e w' => e = .returned (.tuple #[.string ⟨#[]⟩, .int .i64 1]) ∧ Below w.heap.size w w' := by
  have HC := Aside0.mk (text_Cells.pos n hn)
  obtain ⟨m, hm⟩ : ∃ m, m = (n + 7) / 8 := ⟨_, rfl⟩
  rw [← hm] at HC hne
  clear hm
  have hb : ((m : Int) != (len : Int)) = true := by simp; omega
  have hb2 : decide ((n : Int) < 0) = false := by simp
  clear hne
  go_enter Try.func56, Try.ntmps56
  go_wp2_with (go_at_call 58; (with_reducible refine (text_Cells.calls _ m _ HC.out).mono ?_); rintro e w' ⟨rfl, ⟨nd, rfl⟩⟩)
  go_ret2
  exact ⟨rfl, pw_below_drewN (Below.refl _ _) _⟩
set_option maxHeartbeats 2000000 in
theorem text_Unpack.eq (A0 : Option Addr) (c0 : Nat) (l0 : List Int) (n : Nat) (w : World) (hr0 : Kd.C (Kd.int .i64) w A0 l0.length l0) (hc0 : l0.length ≤ c0) (hl : l0.length * 8 ≤ 140737488351232) (hn : n ≤ 9223372036854775807) (hne : (n + 7) / 8 = l0.length) :
    Calls Try.prog 56 #[.slice A0 l0.length c0, .int .i64 (n : Int)] w fun e w' => e = .returned (.tuple #[.string (TextMath.unp l0 n).1, .int .i64 (TextMath.unp l0 n).2]) ∧ Below w.heap.size w w' := by
  have HC := Aside0.mk (text_Cells.pos n hn)
  rw [hne] at HC
  have hn8 : n ≤ 8 * l0.length := by omega
  have hunp : TextMath.unp l0 n = if ((TextMath.unb l0).drop n).all (· == 0) = true then (strOfNums ((TextMath.unb l0).take n), 0) else (⟨#[]⟩, 6) := by
    unfold TextMath.unp
    rw [if_neg (by omega)]
    simp only [Int.toNat_natCast]
  obtain ⟨ys, hys⟩ : ∃ ys, ys = (TextMath.unb l0).drop n := ⟨_, rfl⟩
  obtain ⟨zs, hzs⟩ : ∃ zs, zs = (TextMath.unb l0).take n := ⟨_, rfl⟩
  rw [← hys, ← hzs] at hunp
  rw [hunp]
  clear hunp hne
  have HY := Aside0.mk hys
  have HZ := Aside0.mk hzs
  clear hys hzs
  have HFIN : Aside0 ((ys.all (· == 0) = true → (if ys.all (· == 0) = true then (strOfNums zs, (0 : Int)) else (⟨#[]⟩, 6)) = (strOfNums zs, 0)) ∧ (ys.all (· == 0) = false → (if ys.all (· == 0) = true then (strOfNums zs, (0 : Int)) else (⟨#[]⟩, 6)) = (⟨#[]⟩, 6))) := ⟨⟨fun h => if_pos h, fun h => if_neg (by simp [h])⟩⟩
  obtain ⟨res, hres⟩ : ∃ res, res = (if ys.all (· == 0) = true then (strOfNums zs, (0 : Int)) else (⟨#[]⟩, 6)) := ⟨_, rfl⟩
  rw [← hres] at HFIN
  rw [← hres]
  clear hres
  have HR0 := Aside0.mk hr0
  clear hr0
  have hb : ((l0.length : Int) != (l0.length : Int)) = false := by simp
  have hb2 : decide ((n : Int) < 0) = false := by simp
  obtain ⟨c, hc⟩ : ∃ c, c = 8 * l0.length := ⟨_, rfl⟩
  have hce : (8 : Int) * (l0.length : Int) = (c : Int) := by omega
  have hmk := TextMath.run_make_cap 80 5 (.int .u8 0) 1 Try.underlying80 info5 rfl (by omega) c (by omega)
  have HCE := Aside0.mk hc
  clear hc
  go_enter Try.func56, Try.ntmps56
  go_wp2_with (go_at_call 58; (with_reducible refine (text_Cells.calls _ _ _ HC.out).mono ?_); rintro e w' ⟨rfl, ⟨nd, rfl⟩⟩)
  go_loopw [6, 28] (fun out i wr => ∃ j : Nat, j ≤ l0.length ∧ i = .int .i64 j ∧ Aside0 (Kd.R (Kd.int .u8) 5 wr w.heap.size (fun _ => True) out (TextMath.unb (l0.take j))) ∧ Aside0 (Below w.heap.size w wr)) (fun _ i _ => l0.length - (intOf i).toNat)
  case atStart =>
    refine ⟨0, by omega, rfl, ⟨?_⟩, ⟨?_⟩⟩
    · exact TextMath.R_empty (w.drewN nd) w.heap.size (Nat.le_refl _) (by simp only [maxLen]; have := HCE.out; omega) _ (TextMath.madeCells_size _ _)
    · exact below_alloc (pw_below_drewN (Below.refl _ _) nd) _
  case round =>
    obtain ⟨j, hj, rfl, HO, HB⟩ := hrel
    by_cases hlt : j < l0.length
    · obtain ⟨ad, rfl, hx⟩ := Kd.at_int HR0.out (j : Int) (by omega) (by omega)
      replace hx := (HB.out.cell (World.block_lt_of_cell? w _ hx)).trans hx
      simp only [Int.toNat_natCast] at hx
      obtain ⟨x, hxe⟩ : ∃ x, x = rd l0 j := ⟨_, rfl⟩
      rw [← hxe] at hx
      have HX := Aside0.mk hxe
      clear hxe
      have hjl : decide ((j : Int) < (l0.length : Int)) = true := by simp; omega
      go_wp2_with fail
      go_loopw [32] (fun i wr2 => ∃ q : Nat, q ≤ 8 ∧ i = .int .i64 q ∧ wr2 = wr.alloc (.cells (TextMath.fill8 x q) 81)) (fun i _ => 8 - (intOf i).toNat)
      case atStart => exact ⟨0, by omega, rfl, rfl⟩
      case round =>
        obtain ⟨q, hq, rfl, rfl⟩ := hrel
        by_cases hq8 : q < 8
        · obtain rfl | rfl | rfl | rfl | rfl | rfl | rfl | rfl : q = 0 ∨ q = 1 ∨ q = 2 ∨ q = 3 ∨ q = 4 ∨ q = 5 ∨ q = 6 ∨ q = 7 := by omega
          all_goals simp only [TextMath.fill8, TextMath.eight, TextMath.zeros8]
          all_goals go_wp2
          all_goals go_roundw
          case rel => exact ⟨1, by omega, by go_num, by simp [TextMath.fill8, TextMath.eight, TextMath.zeros8, TextMath.ub]⟩
          case measure => simp [intOf]
          case rel => exact ⟨2, by omega, by go_num, by simp [TextMath.fill8, TextMath.eight, TextMath.zeros8, TextMath.ub]⟩
          case measure => simp [intOf]
          case rel => exact ⟨3, by omega, by go_num, by simp [TextMath.fill8, TextMath.eight, TextMath.zeros8, TextMath.ub]⟩
          case measure => simp [intOf]
          case rel => exact ⟨4, by omega, by go_num, by simp [TextMath.fill8, TextMath.eight, TextMath.zeros8, TextMath.ub]⟩
          case measure => simp [intOf]
          case rel => exact ⟨5, by omega, by go_num, by simp [TextMath.fill8, TextMath.eight, TextMath.zeros8, TextMath.ub]⟩
          case measure => simp [intOf]
          case rel => exact ⟨6, by omega, by go_num, by simp [TextMath.fill8, TextMath.eight, TextMath.zeros8, TextMath.ub]⟩
          case measure => simp [intOf]
          case rel => exact ⟨7, by omega, by go_num, by simp [TextMath.fill8, TextMath.eight, TextMath.zeros8, TextMath.ub]⟩
          case measure => simp [intOf]
          case rel => exact ⟨8, by omega, by go_num, by simp [TextMath.fill8, TextMath.eight, TextMath.zeros8, TextMath.ub]⟩
          case measure => simp [intOf]
        · obtain rfl : q = 8 := by omega
          simp only [TextMath.fill8, TextMath.eight]
          have hsrc : ReadsInt (wr.alloc (.cells #[.int .u8 (TextMath.ub x 0), .int .u8 (TextMath.ub x 1), .int .u8 (TextMath.ub x 2), .int .u8 (TextMath.ub x 3), .int .u8 (TextMath.ub x 4), .int .u8 (TextMath.ub x 5), .int .u8 (TextMath.ub x 6), .int .u8 (TextMath.ub x 7)] 81)) .u8 (some ⟨wr.heap.size, 0, none⟩) 8 (TextMath.cellBytes x) := TextMath.reads_eight wr 81 x
          have HS := Aside0.mk hsrc
          clear hsrc
          go_wp2_with (at_builtin; refine Kd.R_append_row (Value.int .u8) 0 (w0 := w) w.heap.size rfl (.tmp 44) (.tmp 45) 80 5 (.int .u8 0) 1 rfl Try.underlying80 info5 rfl (by decide) u6 (TextMath.unb (l0.take j)) (TextMath.cellBytes x) (some ⟨wr.heap.size, 0, none⟩) 8 8 (fun _ => True) rfl rfl (fun _ _ => trivial) (Kd.R_alloc HO.out _) (Kd.C_of_reads (d := (0 : Int)) (h1 := fun _ => rfl) HS.out) (below_alloc HB.out _) (by have := below_size HB.out; simp; omega) (by rw [TextMath.unb_length, List.length_take]; omega) ?_)
          intro v1 w5 ho hb hg hat
          have HO1 := Aside0.mk ho
          have HB1 := Aside0.mk hb
          clear ho hb hg hat
          go_wp2
          go_roundw
          case rel =>
            refine ⟨j + 1, by omega, by go_num, ⟨?_⟩, HB1⟩
            rw [TextMath.unb_take_succ l0 j hlt, ← HX.out]
            exact HO1.out
          case measure =>
            simp [intOf]
            omega
    · obtain rfl : j = l0.length := by omega
      have hjl : decide ((l0.length : Int) < (l0.length : Int)) = false := by simp
      have HO' := HO.out
      rw [List.take_length] at HO'
      clear HO
      obtain ⟨A, cc, rfl, hlc, hC⟩ := Kd.R_reads HO'
      obtain ⟨i0, hi0, hzz⟩ := Option.map_eq_some_iff.1 info5
      simp only [Prod.mk.injEq] at hzz
      have hul : (TextMath.unb l0).length = 8 * l0.length := TextMath.unb_length l0
      have hRd := Kd.reads_of_C (enc := Value.int .u8) (d := (0 : Int)) (h1 := fun _ => rfl) hC
      obtain ⟨A2, hdrop, hdr, hdl⟩ := print_drop_of (P := Try.prog) (Value.int .u8) (0 : Int) 80 5 .i64 Try.underlying80 hi0 hzz.2.1 A cc (TextMath.unb l0) (n : Int) (by omega) (by omega) hlc
      obtain ⟨htake, htr, htl⟩ := print_take_of (P := Try.prog) (Value.int .u8) (0 : Int) 80 5 .i64 Try.underlying80 hi0 hzz.2.1 A cc (TextMath.unb l0) (n : Int) (by omega) (by omega) hlc
      simp only [Int.toNat_natCast] at hdrop hdr hdl htake htr htl
      have hst : ∀ m : Nat, (convert 80 9 (.slice A ((TextMath.unb l0).take n).length cc)).run Try.prog (wr.drewN m) = .ok (.string (strOfNums ((TextMath.unb l0).take n))) (wr.drewN m) := fun m =>
        string_of_reads Try.underlying80 Try.underlying5 Try.underlying9 (htr (wr.drewN m) hRd)
      have hst0 := hst 0
      have HD := Aside0.mk (hdr wr hRd)
      rw [← HY.out] at hdrop HD hdl
      rw [← HZ.out] at htake hst0
      rw [World.drewN_zero] at hst0
      clear hst hdr htr htl HO' hC hRd hul hi0 hzz
      go_wp2_with fail
      have hyl : ys.length ≤ 9223372036854775807 := HD.out.2.1
      go_loop [52] (fun i => ∃ q : Nat, q ≤ ys.length ∧ i = .int .i64 q ∧ Aside0 ((ys.take q).all (· == 0) = true)) (fun i => ys.length - (intOf i).toNat)
      case atStart => exact ⟨0, by omega, rfl, ⟨rfl⟩⟩
      case round =>
        obtain ⟨q, hq, rfl, HQ⟩ := hrel
        by_cases hq8 : q < ys.length
        · obtain ⟨ad, rfl, hx⟩ := HD.out.at_ (q : Int) (by omega) (by omega)
          simp only [Int.toNat_natCast] at hx
          obtain ⟨y, hye⟩ : ∃ y, y = rdOf (0 : Int) ys (q : Int) := ⟨_, rfl⟩
          rw [← hye] at hx
          have hsucc : ys.take (q + 1) = ys.take q ++ [y] := by
            rw [List.take_succ_eq_append_getElem hq8, hye]
            simp [rdOf, List.getD_eq_getElem?_getD, List.getElem?_eq_getElem hq8]
          have HSU := Aside0.mk hsucc
          clear hsucc hye
          by_cases hy0 : y = 0
          · subst hy0
            go_wp2
            go_round
            case rel => exact ⟨q + 1, by omega, by go_num, ⟨by rw [HSU.out, List.all_append, HQ.out]; rfl⟩⟩
            case measure => simp [intOf]; omega
          · have hfin : ys.all (· == 0) = false := by
              rw [← List.take_append_drop (q + 1) ys, List.all_append, HSU.out, List.all_append]
              simp [hy0]
            have HF2 := Aside0.mk (HFIN.out.2 hfin)
            clear hfin
            have hyb : (y != 0) = true := by simp [hy0]
            clear hy0
            go_wp2
            go_ret2
            exact ⟨by rw [HF2.out]; rfl, HB.out⟩
        · obtain rfl : q = ys.length := by omega
          have hfin := HQ.out
          rw [List.take_length] at hfin
          have HF1 := Aside0.mk (HFIN.out.1 hfin)
          clear hfin
          go_wp2
          go_ret2
          exact ⟨by rw [HF1.out]; rfl, HB.out⟩
theorem text_Unpack.calls (A0 : Option Addr) (c0 : Nat) (l0 : List Int) (a1 : Int) (r1 : ByteArray) (r2 : Int) (w : World) (hr0 : Kd.C (Kd.int .i64) w A0 l0.length l0) (hc0 : l0.length ≤ c0) (h : text_Unpack.f l0 a1 = some (r1, r2)) :
    Calls Try.prog 56 #[.slice A0 l0.length c0, .int .i64 a1] w fun e w' => e = .returned (.tuple #[.string r1, .int .i64 r2]) ∧ Below w.heap.size w w' := by
  unfold text_Unpack.f at h
  split at h
  · rename_i hs
    obtain ⟨hl, h1, h2⟩ := hs
    have hu := Option.some.inj h
    clear h
    by_cases hn : a1 < 0
    · have e : TextMath.unp l0 a1 = (⟨#[]⟩, 1) := by unfold TextMath.unp; rw [if_pos (.inl hn)]
      rw [e] at hu
      obtain ⟨rfl, rfl⟩ := Prod.mk.inj hu
      exact text_Unpack.neg A0 c0 l0.length a1 w hn
    · obtain ⟨n, rfl⟩ := Int.eq_ofNat_of_zero_le (show 0 ≤ a1 by omega)
      by_cases hne : (n + 7) / 8 = l0.length
      · have := text_Unpack.eq A0 c0 l0 n w hr0 hc0 hl (by omega) hne
        rw [hu] at this
        exact this
      · have e : TextMath.unp l0 n = (⟨#[]⟩, 1) := by unfold TextMath.unp; rw [if_pos (.inr (by omega))]
        rw [e] at hu
        obtain ⟨rfl, rfl⟩ := Prod.mk.inj hu
        exact text_Unpack.ne A0 c0 l0.length n w (by omega) hne
  · exact absurd h (by simp)

/-! ### object_str: function 47 -/
def object_str.f (a0_0 : Int) (a0_1 : Int) (a0_2 : Int) (a0_3 : Int) (a0_4 : Int) (a0_5 : Int) (a0_6 : Int) (a0_7 : Int) (l0_8 : List Int) (l0_9 : List (S38)) : Option (Bool) := if (l0_9.length : Int) > 0 then (some false) else (if (l0_8.length : Int) = 0 then (some false) else (if 0 < (l0_8.length : Int) then (if (rd l0_8 0) < 0 then (some false) else (if (rd l0_8 0) > 32768 then (some false) else (if 1 ≤ (l0_8.length : Int) then ((text_Unpack.f (l0_8.drop 1) (rd l0_8 0)).bind fun bt190 => (some (bt190.2 == 0))) else (none)))) else (none)))
def object_str.T3 : Bool × List (List Nat × List Nat) := (true, [([], []), ([0], [0]), ([1], [1]), ([], []), ([3], [3]), ([4], [4]), ([5], [5]), ([2, 6], [2, 6]), ([7], [7]), ([8], [8]), ([8], [8]), ([9, 7, 0, 1, 2, 3, 4, 5, 6, 7, 8, 9], [9]), ([10, 11, 0, 1, 2, 3, 4, 5, 6, 7, 8, 9, 10, 11], [10])])
def object_str.B3 : List Nat := [0, 1, 3, 0, 8, 24, 56, 127, 255, 511, 511, 1023, 4095]
theorem object_str.tab3 : rtab .any (opsOf Try.f47 3) = object_str.T3 := by kernel_rfl
theorem object_str.bits3 : waitsOk object_str.T3.2 object_str.B3 = true := by kernel_rfl
set_option maxHeartbeats 8000000 in
set_option maxRecDepth 100000 in
theorem object_str.calls (a0_0 : Int) (a0_1 : Int) (a0_2 : Int) (a0_3 : Int) (a0_4 : Int) (a0_5 : Int) (a0_6 : Int) (a0_7 : Int) (A0_8 : Option Addr) (c0_8 : Nat) (l0_8 : List Int) (A0_9 : Option Addr) (c0_9 : Nat) (l0_9 : List (S38)) (r : Bool) (w : World) (hr0_8 : Kd.C (Kd.int .i64) w A0_8 l0_8.length l0_8) (hc0_8 : l0_8.length ≤ c0_8) (hr0_9 : Kd.C k38 w A0_9 l0_9.length l0_9) (hc0_9 : l0_9.length ≤ c0_9) (h : object_str.f a0_0 a0_1 a0_2 a0_3 a0_4 a0_5 a0_6 a0_7 l0_8 l0_9 = some r) :
  Calls Try.prog 47 #[.agg #[.int .i64 a0_0, .int .i64 a0_1, .int .i64 a0_2, .int .i64 a0_3, .int .i64 a0_4, .int .i64 a0_5, .int .i64 a0_6, .int .i64 a0_7, .slice A0_8 l0_8.length c0_8, .slice A0_9 l0_9.length c0_9]] w fun e w' => e = .returned (.bool r) ∧ Below w.heap.size w w' := by
 have hu43 := Try.underlying43
 have HR0_8 := Aside0.mk hr0_8
 have HC0_8 := Aside0.mk hc0_8
 clear hr0_8 hc0_8
 have HR0_9 := Aside0.mk hr0_9
 have HC0_9 := Aside0.mk hc0_9
 clear hr0_9 hc0_9
 have HB := Aside0.mk (Below.refl w.heap.size w)
 have H : (if (l0_9.length : Int) > 0 then (some false) else (if (l0_8.length : Int) = 0 then (some false) else (if 0 < (l0_8.length : Int) then (if (rd l0_8 0) < 0 then (some false) else (if (rd l0_8 0) > 32768 then (some false) else (if 1 ≤ (l0_8.length : Int) then ((text_Unpack.f (l0_8.drop 1) (rd l0_8 0)).bind fun bt190 => (some (bt190.2 == 0))) else (none)))) else (none)))) = some r := h
 clear h
 by_cases c2 : (l0_9.length : Int) > 0
 ·rw [if_pos c2] at H
  have c2b0 : decide (0 < (l0_9.length : Int)) = true := decide_eq_true c2
  have c2b1 : decide (0 < l0_9.length) = true := decide_eq_true (by omega)
  clear c2
  obtain rfl := Option.some.inj H
  go_enter Try.func47, Try.ntmps47
  go_wp2_with (first | ((with_reducible refine gate_dst (N := 1) rfl ?_); (try (refine gate_guard (by rfl) ?_; dsimp only)); refine box_event ?hg (N := 1) ?hd (cs := #[.int .i64 a0_0, .int .i64 a0_1, .int .i64 a0_2, .int .i64 a0_3, .int .i64 a0_4, .int .i64 a0_5, .int .i64 a0_6, .int .i64 a0_7, .slice A0_8 l0_8.length c0_8, .slice A0_9 l0_9.length c0_9]) (t := 43) ?hr ?_; (case hd => rfl); (case hg => rfl); (case hr => first | (go_simp; done) | (go_simp; rfl)); intro gb185 hg w3 hbox hb; have n0_ := Aside0.mk (below_step (by repeat (first | (with_reducible first | exact HB.out | apply below_alloc | apply pw_below_drewN | apply below_drew1) | exact HB.out)) hb); have n1_ := Aside0.mk (hbox); have n2_ := Aside0.mk ((by rw [hg]; exact (below_size (by repeat (first | (with_reducible first | exact HB.out | apply below_alloc | apply pw_below_drewN | apply below_drew1) | exact HB.out))) : w.heap.size ≤ gb185)); have n3_ := Aside0.mk ((by rw [hg]; exact (below_size (by repeat (first | (with_reducible first | exact HB.out | apply below_alloc | apply pw_below_drewN | apply below_drew1) | exact HB.out))) : w.heap.size ≤ gb185)); clear HB; have HB := n0_; have BK185 := n1_; have GW185 := n2_; have GE185 := n3_; clear n0_ n1_ n2_ n3_; clear hb hbox hg; have hcz4_0 : w3.cell? ⟨gb185, 0, none⟩ = some (.int .i64 a0_0) := (blk_cell BK185.out 0).trans rfl; have hcz4_1 : w3.cell? ⟨gb185, 1, none⟩ = some (.int .i64 a0_1) := (blk_cell BK185.out 1).trans rfl; have hcz4_2 : w3.cell? ⟨gb185, 2, none⟩ = some (.int .i64 a0_2) := (blk_cell BK185.out 2).trans rfl; have hcz4_3 : w3.cell? ⟨gb185, 3, none⟩ = some (.int .i64 a0_3) := (blk_cell BK185.out 3).trans rfl; have hcz4_4 : w3.cell? ⟨gb185, 4, none⟩ = some (.int .i64 a0_4) := (blk_cell BK185.out 4).trans rfl; have hcz4_5 : w3.cell? ⟨gb185, 5, none⟩ = some (.int .i64 a0_5) := (blk_cell BK185.out 5).trans rfl; have hcz4_6 : w3.cell? ⟨gb185, 6, none⟩ = some (.int .i64 a0_6) := (blk_cell BK185.out 6).trans rfl; have hcz4_7 : w3.cell? ⟨gb185, 7, none⟩ = some (.int .i64 a0_7) := (blk_cell BK185.out 7).trans rfl; have hcz4_8 : w3.cell? ⟨gb185, 8, none⟩ = some (.slice A0_8 l0_8.length c0_8) := (blk_cell BK185.out 8).trans rfl; have hcz4_9 : w3.cell? ⟨gb185, 9, none⟩ = some (.slice A0_9 l0_9.length c0_9) := (blk_cell BK185.out 9).trans rfl; have hfz4_0 := blk_frozen BK185.out 0; have hfz4_1 := blk_frozen BK185.out 1; have hfz4_2 := blk_frozen BK185.out 2; have hfz4_3 := blk_frozen BK185.out 3; have hfz4_4 := blk_frozen BK185.out 4; have hfz4_5 := blk_frozen BK185.out 5; have hfz4_6 := blk_frozen BK185.out 6; have hfz4_7 := blk_frozen BK185.out 7; have hfz4_8 := blk_frozen BK185.out 8; have hfz4_9 := blk_frozen BK185.out 9))
  go_ret
  exact ⟨by first | rfl | (simp [errW_none, errW_some] <;> rfl) | (simp [*, errW_none, errW_some] <;> rfl), by repeat (first | (with_reducible first | exact HB.out | apply below_alloc | apply pw_below_drewN | apply below_drew1 | refine below_set ?_ GE185.out) | exact HB.out)⟩
 ·rw [if_neg c2] at H
  have c2b0 : decide (0 < (l0_9.length : Int)) = false := decide_eq_false c2
  have c2b1 : decide (0 < l0_9.length) = false := decide_eq_false (by omega)
  clear c2
  by_cases c5 : (l0_8.length : Int) = 0
  ·rw [if_pos c5] at H
   have c5b0 : ((l0_8.length : Int) == 0) = true := beq_iff_eq.mpr c5
   have c5b1 : ((l0_8.length : Int) != 0) = false := bne_eq_false_iff_eq.mpr c5
   clear c5
   obtain rfl := Option.some.inj H
   go_enter Try.func47, Try.ntmps47
   go_wp2_with (first | ((with_reducible refine gate_dst (N := 1) rfl ?_); (try (refine gate_guard (by rfl) ?_; dsimp only)); refine box_event ?hg (N := 1) ?hd (cs := #[.int .i64 a0_0, .int .i64 a0_1, .int .i64 a0_2, .int .i64 a0_3, .int .i64 a0_4, .int .i64 a0_5, .int .i64 a0_6, .int .i64 a0_7, .slice A0_8 l0_8.length c0_8, .slice A0_9 l0_9.length c0_9]) (t := 43) ?hr ?_; (case hd => rfl); (case hg => rfl); (case hr => first | (go_simp; done) | (go_simp; rfl)); intro gb185 hg w6 hbox hb; have n0_ := Aside0.mk (below_step (by repeat (first | (with_reducible first | exact HB.out | apply below_alloc | apply pw_below_drewN | apply below_drew1) | exact HB.out)) hb); have n1_ := Aside0.mk (hbox); have n2_ := Aside0.mk ((by rw [hg]; exact (below_size (by repeat (first | (with_reducible first | exact HB.out | apply below_alloc | apply pw_below_drewN | apply below_drew1) | exact HB.out))) : w.heap.size ≤ gb185)); have n3_ := Aside0.mk ((by rw [hg]; exact (below_size (by repeat (first | (with_reducible first | exact HB.out | apply below_alloc | apply pw_below_drewN | apply below_drew1) | exact HB.out))) : w.heap.size ≤ gb185)); clear HB; have HB := n0_; have BK185 := n1_; have GW185 := n2_; have GE185 := n3_; clear n0_ n1_ n2_ n3_; clear hb hbox hg; have hcz7_0 : w6.cell? ⟨gb185, 0, none⟩ = some (.int .i64 a0_0) := (blk_cell BK185.out 0).trans rfl; have hcz7_1 : w6.cell? ⟨gb185, 1, none⟩ = some (.int .i64 a0_1) := (blk_cell BK185.out 1).trans rfl; have hcz7_2 : w6.cell? ⟨gb185, 2, none⟩ = some (.int .i64 a0_2) := (blk_cell BK185.out 2).trans rfl; have hcz7_3 : w6.cell? ⟨gb185, 3, none⟩ = some (.int .i64 a0_3) := (blk_cell BK185.out 3).trans rfl; have hcz7_4 : w6.cell? ⟨gb185, 4, none⟩ = some (.int .i64 a0_4) := (blk_cell BK185.out 4).trans rfl; have hcz7_5 : w6.cell? ⟨gb185, 5, none⟩ = some (.int .i64 a0_5) := (blk_cell BK185.out 5).trans rfl; have hcz7_6 : w6.cell? ⟨gb185, 6, none⟩ = some (.int .i64 a0_6) := (blk_cell BK185.out 6).trans rfl; have hcz7_7 : w6.cell? ⟨gb185, 7, none⟩ = some (.int .i64 a0_7) := (blk_cell BK185.out 7).trans rfl; have hcz7_8 : w6.cell? ⟨gb185, 8, none⟩ = some (.slice A0_8 l0_8.length c0_8) := (blk_cell BK185.out 8).trans rfl; have hcz7_9 : w6.cell? ⟨gb185, 9, none⟩ = some (.slice A0_9 l0_9.length c0_9) := (blk_cell BK185.out 9).trans rfl; have hfz7_0 := blk_frozen BK185.out 0; have hfz7_1 := blk_frozen BK185.out 1; have hfz7_2 := blk_frozen BK185.out 2; have hfz7_3 := blk_frozen BK185.out 3; have hfz7_4 := blk_frozen BK185.out 4; have hfz7_5 := blk_frozen BK185.out 5; have hfz7_6 := blk_frozen BK185.out 6; have hfz7_7 := blk_frozen BK185.out 7; have hfz7_8 := blk_frozen BK185.out 8; have hfz7_9 := blk_frozen BK185.out 9))
   go_ret
   exact ⟨by first | rfl | (simp [errW_none, errW_some] <;> rfl) | (simp [*, errW_none, errW_some] <;> rfl), by repeat (first | (with_reducible first | exact HB.out | apply below_alloc | apply pw_below_drewN | apply below_drew1 | refine below_set ?_ GE185.out) | exact HB.out)⟩
  ·rw [if_neg c5] at H
   have c5b0 : ((l0_8.length : Int) == 0) = false := beq_eq_false_iff_ne.mpr c5
   have c5b1 : ((l0_8.length : Int) != 0) = true := bne_iff_ne.mpr c5
   have c5b2 : ¬ (l0_8 = []) := fun h_ => c5 (by rw [h_]; rfl)
   by_cases c8 : 0 < (l0_8.length : Int)
   ·rw [if_pos c8] at H
    have c8b0 : decide (0 < (l0_8.length : Int)) = true := decide_eq_true c8
    have c8b1 : decide (0 < l0_8.length) = true := decide_eq_true (by omega)
    clear c8
    by_cases c9 : (rd l0_8 0) < 0
    ·rw [if_pos c9] at H
     have c9b0 : decide ((rd l0_8 0) < 0) = true := decide_eq_true c9
     clear c9
     obtain rfl := Option.some.inj H
     go_enter Try.func47, Try.ntmps47
     go_wp2_with (first | ((with_reducible refine gate_dst (N := 1) rfl ?_); (try (refine gate_guard (by rfl) ?_; dsimp only)); refine box_event ?hg (N := 1) ?hd (cs := #[.int .i64 a0_0, .int .i64 a0_1, .int .i64 a0_2, .int .i64 a0_3, .int .i64 a0_4, .int .i64 a0_5, .int .i64 a0_6, .int .i64 a0_7, .slice A0_8 l0_8.length c0_8, .slice A0_9 l0_9.length c0_9]) (t := 43) ?hr ?_; (case hd => rfl); (case hg => rfl); (case hr => first | (go_simp; done) | (go_simp; rfl)); intro gb185 hg w10 hbox hb; have n0_ := Aside0.mk (below_step (by repeat (first | (with_reducible first | exact HB.out | apply below_alloc | apply pw_below_drewN | apply below_drew1) | exact HB.out)) hb); have n1_ := Aside0.mk (hbox); have n2_ := Aside0.mk ((by rw [hg]; exact (below_size (by repeat (first | (with_reducible first | exact HB.out | apply below_alloc | apply pw_below_drewN | apply below_drew1) | exact HB.out))) : w.heap.size ≤ gb185)); have n3_ := Aside0.mk ((by rw [hg]; exact (below_size (by repeat (first | (with_reducible first | exact HB.out | apply below_alloc | apply pw_below_drewN | apply below_drew1) | exact HB.out))) : w.heap.size ≤ gb185)); clear HB; have HB := n0_; have BK185 := n1_; have GW185 := n2_; have GE185 := n3_; clear n0_ n1_ n2_ n3_; clear hb hbox hg; have hcz11_0 : w10.cell? ⟨gb185, 0, none⟩ = some (.int .i64 a0_0) := (blk_cell BK185.out 0).trans rfl; have hcz11_1 : w10.cell? ⟨gb185, 1, none⟩ = some (.int .i64 a0_1) := (blk_cell BK185.out 1).trans rfl; have hcz11_2 : w10.cell? ⟨gb185, 2, none⟩ = some (.int .i64 a0_2) := (blk_cell BK185.out 2).trans rfl; have hcz11_3 : w10.cell? ⟨gb185, 3, none⟩ = some (.int .i64 a0_3) := (blk_cell BK185.out 3).trans rfl; have hcz11_4 : w10.cell? ⟨gb185, 4, none⟩ = some (.int .i64 a0_4) := (blk_cell BK185.out 4).trans rfl; have hcz11_5 : w10.cell? ⟨gb185, 5, none⟩ = some (.int .i64 a0_5) := (blk_cell BK185.out 5).trans rfl; have hcz11_6 : w10.cell? ⟨gb185, 6, none⟩ = some (.int .i64 a0_6) := (blk_cell BK185.out 6).trans rfl; have hcz11_7 : w10.cell? ⟨gb185, 7, none⟩ = some (.int .i64 a0_7) := (blk_cell BK185.out 7).trans rfl; have hcz11_8 : w10.cell? ⟨gb185, 8, none⟩ = some (.slice A0_8 l0_8.length c0_8) := (blk_cell BK185.out 8).trans rfl; have hcz11_9 : w10.cell? ⟨gb185, 9, none⟩ = some (.slice A0_9 l0_9.length c0_9) := (blk_cell BK185.out 9).trans rfl; have hfz11_0 := blk_frozen BK185.out 0; have hfz11_1 := blk_frozen BK185.out 1; have hfz11_2 := blk_frozen BK185.out 2; have hfz11_3 := blk_frozen BK185.out 3; have hfz11_4 := blk_frozen BK185.out 4; have hfz11_5 := blk_frozen BK185.out 5; have hfz11_6 := blk_frozen BK185.out 6; have hfz11_7 := blk_frozen BK185.out 7; have hfz11_8 := blk_frozen BK185.out 8; have hfz11_9 := blk_frozen BK185.out 9; have p186 : 0 ≤ (0 : Int) := (by omega); have q186 : 0 < (l0_8.length : Int) := of_decide_eq_true (by first | (with_reducible assumption) | assumption); obtain ⟨ad186, e186, hx186_0⟩ := Kd.at_int HR0_8.out 0 p186 q186; cases e186; have qi186 : (0 < l0_8.length) = True := eq_true (by omega); (try rw [show ((0 : Int)).toNat = 0 from rfl] at hx186_0); (try rw [Addr.add_zero'] at hx186_0); replace hx186_0 := (HB.out.cell (World.block_lt_of_cell? w _ hx186_0)).trans hx186_0; replace p186 := eq_true p186; replace q186 := eq_true q186))
     go_ret
     exact ⟨by first | rfl | (simp [errW_none, errW_some] <;> rfl) | (simp [*, errW_none, errW_some] <;> rfl), by repeat (first | (with_reducible first | exact HB.out | apply below_alloc | apply pw_below_drewN | apply below_drew1 | refine below_set ?_ GE185.out) | exact HB.out)⟩
    ·rw [if_neg c9] at H
     have c9b0 : decide ((rd l0_8 0) < 0) = false := decide_eq_false c9
     clear c9
     by_cases c12 : (rd l0_8 0) > 32768
     ·rw [if_pos c12] at H
      have c12b0 : decide (32768 < (rd l0_8 0)) = true := decide_eq_true c12
      clear c12
      obtain rfl := Option.some.inj H
      go_enter Try.func47, Try.ntmps47
      go_wp2_with (first | ((with_reducible refine gate_dst (N := 1) rfl ?_); (try (refine gate_guard (by rfl) ?_; dsimp only)); refine box_event ?hg (N := 1) ?hd (cs := #[.int .i64 a0_0, .int .i64 a0_1, .int .i64 a0_2, .int .i64 a0_3, .int .i64 a0_4, .int .i64 a0_5, .int .i64 a0_6, .int .i64 a0_7, .slice A0_8 l0_8.length c0_8, .slice A0_9 l0_9.length c0_9]) (t := 43) ?hr ?_; (case hd => rfl); (case hg => rfl); (case hr => first | (go_simp; done) | (go_simp; rfl)); intro gb185 hg w13 hbox hb; have n0_ := Aside0.mk (below_step (by repeat (first | (with_reducible first | exact HB.out | apply below_alloc | apply pw_below_drewN | apply below_drew1) | exact HB.out)) hb); have n1_ := Aside0.mk (hbox); have n2_ := Aside0.mk ((by rw [hg]; exact (below_size (by repeat (first | (with_reducible first | exact HB.out | apply below_alloc | apply pw_below_drewN | apply below_drew1) | exact HB.out))) : w.heap.size ≤ gb185)); have n3_ := Aside0.mk ((by rw [hg]; exact (below_size (by repeat (first | (with_reducible first | exact HB.out | apply below_alloc | apply pw_below_drewN | apply below_drew1) | exact HB.out))) : w.heap.size ≤ gb185)); clear HB; have HB := n0_; have BK185 := n1_; have GW185 := n2_; have GE185 := n3_; clear n0_ n1_ n2_ n3_; clear hb hbox hg; have hcz14_0 : w13.cell? ⟨gb185, 0, none⟩ = some (.int .i64 a0_0) := (blk_cell BK185.out 0).trans rfl; have hcz14_1 : w13.cell? ⟨gb185, 1, none⟩ = some (.int .i64 a0_1) := (blk_cell BK185.out 1).trans rfl; have hcz14_2 : w13.cell? ⟨gb185, 2, none⟩ = some (.int .i64 a0_2) := (blk_cell BK185.out 2).trans rfl; have hcz14_3 : w13.cell? ⟨gb185, 3, none⟩ = some (.int .i64 a0_3) := (blk_cell BK185.out 3).trans rfl; have hcz14_4 : w13.cell? ⟨gb185, 4, none⟩ = some (.int .i64 a0_4) := (blk_cell BK185.out 4).trans rfl; have hcz14_5 : w13.cell? ⟨gb185, 5, none⟩ = some (.int .i64 a0_5) := (blk_cell BK185.out 5).trans rfl; have hcz14_6 : w13.cell? ⟨gb185, 6, none⟩ = some (.int .i64 a0_6) := (blk_cell BK185.out 6).trans rfl; have hcz14_7 : w13.cell? ⟨gb185, 7, none⟩ = some (.int .i64 a0_7) := (blk_cell BK185.out 7).trans rfl; have hcz14_8 : w13.cell? ⟨gb185, 8, none⟩ = some (.slice A0_8 l0_8.length c0_8) := (blk_cell BK185.out 8).trans rfl; have hcz14_9 : w13.cell? ⟨gb185, 9, none⟩ = some (.slice A0_9 l0_9.length c0_9) := (blk_cell BK185.out 9).trans rfl; have hfz14_0 := blk_frozen BK185.out 0; have hfz14_1 := blk_frozen BK185.out 1; have hfz14_2 := blk_frozen BK185.out 2; have hfz14_3 := blk_frozen BK185.out 3; have hfz14_4 := blk_frozen BK185.out 4; have hfz14_5 := blk_frozen BK185.out 5; have hfz14_6 := blk_frozen BK185.out 6; have hfz14_7 := blk_frozen BK185.out 7; have hfz14_8 := blk_frozen BK185.out 8; have hfz14_9 := blk_frozen BK185.out 9; have p186 : 0 ≤ (0 : Int) := (by omega); have q186 : 0 < (l0_8.length : Int) := of_decide_eq_true (by first | (with_reducible assumption) | assumption); obtain ⟨ad186, e186, hx186_0⟩ := Kd.at_int HR0_8.out 0 p186 q186; cases e186; have qi186 : (0 < l0_8.length) = True := eq_true (by omega); (try rw [show ((0 : Int)).toNat = 0 from rfl] at hx186_0); (try rw [Addr.add_zero'] at hx186_0); replace hx186_0 := (HB.out.cell (World.block_lt_of_cell? w _ hx186_0)).trans hx186_0; replace p186 := eq_true p186; replace q186 := eq_true q186; have p187 : 0 ≤ (0 : Int) := (by omega); have q187 : 0 < (l0_8.length : Int) := of_decide_eq_true (by first | (with_reducible assumption) | assumption); obtain ⟨ad187, e187, hx187_0⟩ := Kd.at_int HR0_8.out 0 p187 q187; obtain rfl : ad186 = ad187 := (by injection e187); have qi187 : (0 < l0_8.length) = True := eq_true (by omega); (try rw [show ((0 : Int)).toNat = 0 from rfl] at hx187_0); (try rw [Addr.add_zero'] at hx187_0); replace hx187_0 := (HB.out.cell (World.block_lt_of_cell? w _ hx187_0)).trans hx187_0; replace p187 := eq_true p187; replace q187 := eq_true q187))
      go_ret
      exact ⟨by first | rfl | (simp [errW_none, errW_some] <;> rfl) | (simp [*, errW_none, errW_some] <;> rfl), by repeat (first | (with_reducible first | exact HB.out | apply below_alloc | apply pw_below_drewN | apply below_drew1 | refine below_set ?_ GE185.out) | exact HB.out)⟩
     ·rw [if_neg c12] at H
      have c12b0 : decide (32768 < (rd l0_8 0)) = false := decide_eq_false c12
      clear c12
      by_cases c15 : 1 ≤ (l0_8.length : Int)
      ·rw [if_pos c15] at H
       have c15b0 := eq_true c15
       have c15b1 : decide (1 ≤ (l0_8.length : Int)) = true := decide_eq_true c15
       clear c15
       replace H := Option.bind_eq_some_iff.mp H
       obtain ⟨⟨t190, t191⟩, A160, H⟩ := H
       replace H : (some (t191 == 0)) = some r := H
       have A16 := Aside0.mk A160
       clear A160
       obtain rfl := Option.some.inj H
       go_enter Try.func47, Try.ntmps47
       try go_wp2_with (first | ((with_reducible refine gate_dst (N := 1) rfl ?_); (try (refine gate_guard (by rfl) ?_; dsimp only)); refine box_event ?hg (N := 1) ?hd (cs := #[.int .i64 a0_0, .int .i64 a0_1, .int .i64 a0_2, .int .i64 a0_3, .int .i64 a0_4, .int .i64 a0_5, .int .i64 a0_6, .int .i64 a0_7, .slice A0_8 l0_8.length c0_8, .slice A0_9 l0_9.length c0_9]) (t := 43) ?hr ?_; (case hd => rfl); (case hg => rfl); (case hr => first | (go_simp; done) | (go_simp; rfl)); intro gb185 hg w17 hbox hb; have n0_ := Aside0.mk (below_step (by repeat (first | (with_reducible first | exact HB.out | apply below_alloc | apply pw_below_drewN | apply below_drew1) | exact HB.out)) hb); have n1_ := Aside0.mk (hbox); have n2_ := Aside0.mk ((by rw [hg]; exact (below_size (by repeat (first | (with_reducible first | exact HB.out | apply below_alloc | apply pw_below_drewN | apply below_drew1) | exact HB.out))) : w.heap.size ≤ gb185)); have n3_ := Aside0.mk ((by rw [hg]; exact (below_size (by repeat (first | (with_reducible first | exact HB.out | apply below_alloc | apply pw_below_drewN | apply below_drew1) | exact HB.out))) : w.heap.size ≤ gb185)); clear HB; have HB := n0_; have BK185 := n1_; have GW185 := n2_; have GE185 := n3_; clear n0_ n1_ n2_ n3_; clear hb hbox hg; have hcz18_0 : w17.cell? ⟨gb185, 0, none⟩ = some (.int .i64 a0_0) := (blk_cell BK185.out 0).trans rfl; have hcz18_1 : w17.cell? ⟨gb185, 1, none⟩ = some (.int .i64 a0_1) := (blk_cell BK185.out 1).trans rfl; have hcz18_2 : w17.cell? ⟨gb185, 2, none⟩ = some (.int .i64 a0_2) := (blk_cell BK185.out 2).trans rfl; have hcz18_3 : w17.cell? ⟨gb185, 3, none⟩ = some (.int .i64 a0_3) := (blk_cell BK185.out 3).trans rfl; have hcz18_4 : w17.cell? ⟨gb185, 4, none⟩ = some (.int .i64 a0_4) := (blk_cell BK185.out 4).trans rfl; have hcz18_5 : w17.cell? ⟨gb185, 5, none⟩ = some (.int .i64 a0_5) := (blk_cell BK185.out 5).trans rfl; have hcz18_6 : w17.cell? ⟨gb185, 6, none⟩ = some (.int .i64 a0_6) := (blk_cell BK185.out 6).trans rfl; have hcz18_7 : w17.cell? ⟨gb185, 7, none⟩ = some (.int .i64 a0_7) := (blk_cell BK185.out 7).trans rfl; have hcz18_8 : w17.cell? ⟨gb185, 8, none⟩ = some (.slice A0_8 l0_8.length c0_8) := (blk_cell BK185.out 8).trans rfl; have hcz18_9 : w17.cell? ⟨gb185, 9, none⟩ = some (.slice A0_9 l0_9.length c0_9) := (blk_cell BK185.out 9).trans rfl; have hfz18_0 := blk_frozen BK185.out 0; have hfz18_1 := blk_frozen BK185.out 1; have hfz18_2 := blk_frozen BK185.out 2; have hfz18_3 := blk_frozen BK185.out 3; have hfz18_4 := blk_frozen BK185.out 4; have hfz18_5 := blk_frozen BK185.out 5; have hfz18_6 := blk_frozen BK185.out 6; have hfz18_7 := blk_frozen BK185.out 7; have hfz18_8 := blk_frozen BK185.out 8; have hfz18_9 := blk_frozen BK185.out 9; have p186 : 0 ≤ (0 : Int) := (by omega); have q186 : 0 < (l0_8.length : Int) := of_decide_eq_true (by first | (with_reducible assumption) | assumption); obtain ⟨ad186, e186, hx186_0⟩ := Kd.at_int HR0_8.out 0 p186 q186; cases e186; have qi186 : (0 < l0_8.length) = True := eq_true (by omega); (try rw [show ((0 : Int)).toNat = 0 from rfl] at hx186_0); (try rw [Addr.add_zero'] at hx186_0); replace hx186_0 := (HB.out.cell (World.block_lt_of_cell? w _ hx186_0)).trans hx186_0; replace p186 := eq_true p186; replace q186 := eq_true q186; have p187 : 0 ≤ (0 : Int) := (by omega); have q187 : 0 < (l0_8.length : Int) := of_decide_eq_true (by first | (with_reducible assumption) | assumption); obtain ⟨ad187, e187, hx187_0⟩ := Kd.at_int HR0_8.out 0 p187 q187; obtain rfl : ad186 = ad187 := (by injection e187); have qi187 : (0 < l0_8.length) = True := eq_true (by omega); (try rw [show ((0 : Int)).toNat = 0 from rfl] at hx187_0); (try rw [Addr.add_zero'] at hx187_0); replace hx187_0 := (HB.out.cell (World.block_lt_of_cell? w _ hx187_0)).trans hx187_0; replace p187 := eq_true p187; replace q187 := eq_true q187))
       have n0_ := Aside0.mk (blk_drew BK185.out)
       have n1_ := Aside0.mk (below_drew1 HB.out)
       clear BK185
       clear HB
       have BK185 := n0_
       have HB := n1_
       clear n0_ n1_
       obtain ⟨i020, hi020, _, hsz20, _⟩ := info_parts info2
       obtain ⟨A20, hcut20, hA20, hC20⟩ := print_drop_of (P := Try.prog) (Value.int .i64) 0 40 2 .i64 Try.underlying40 hi020 hsz20 (some ad186) c0_8 l0_8 1 (by omega) (of_decide_eq_true (by first | (with_reducible assumption) | assumption)) HC0_8.out
       have HR188 := Aside0.mk (Kd.C_of_reads (h1 := fun _ => rfl) (hA20 _ (Kd.reads_of_C HR0_8.out)))
       have HC188 := Aside0.mk hC20
       clear hA20 hC20 hi020 hsz20
       have p189 : 0 ≤ (0 : Int) := (by omega)
       have q189 : 0 < (l0_8.length : Int) := of_decide_eq_true (by first | (with_reducible assumption) | assumption)
       obtain ⟨ad189, e189, hx189_0⟩ := Kd.at_int HR0_8.out 0 p189 q189
       have hw189_0 := hx189_0
       (try rw [show ((0 : Int)).toNat = 0 from rfl] at hw189_0)
       (try rw [show 0 * 1 = 0 from rfl] at hw189_0)
       (try rw [Addr.add_zero'] at hw189_0)
       obtain rfl : ad186 = ad189 := (by injection e189)
       have qi189 : (0 < l0_8.length) = True := eq_true (by omega)
       (try rw [show ((0 : Int)).toNat = 0 from rfl] at hx189_0)
       (try rw [Addr.add_zero'] at hx189_0)
       replace hx189_0 := (HB.out.cell (World.block_lt_of_cell? w _ hx189_0)).trans hx189_0
       replace p189 := eq_true p189
       replace q189 := eq_true q189
       refine start_ (n := 13) (S := fun w' => w'.cell? ⟨gb185, 0, none⟩ = some (.int .i64 a0_0) ∧ w'.cell? ⟨gb185, 1, none⟩ = some (.int .i64 a0_1) ∧ w'.cell? ⟨gb185, 2, none⟩ = some (.int .i64 a0_2) ∧ w'.cell? ⟨gb185, 3, none⟩ = some (.int .i64 a0_3) ∧ w'.cell? ⟨gb185, 4, none⟩ = some (.int .i64 a0_4) ∧ w'.cell? ⟨gb185, 5, none⟩ = some (.int .i64 a0_5) ∧ w'.cell? ⟨gb185, 6, none⟩ = some (.int .i64 a0_6) ∧ w'.cell? ⟨gb185, 7, none⟩ = some (.int .i64 a0_7) ∧ w'.cell? ⟨gb185, 8, none⟩ = some (.slice (some ad186) l0_8.length c0_8) ∧ w'.cell? ⟨gb185, 9, none⟩ = some (.slice A0_9 l0_9.length c0_9) ∧ w'.cell? ad186 = some (.int .i64 (rd l0_8 0))) (ds := []) #[false, false, false, false, false, false, false, false, false, false, false, false, false] (by kernel_rfl) rfl rfl ⟨(blk_cell BK185.out 0).trans rfl, (blk_cell BK185.out 1).trans rfl, (blk_cell BK185.out 2).trans rfl, (blk_cell BK185.out 3).trans rfl, (blk_cell BK185.out 4).trans rfl, (blk_cell BK185.out 5).trans rfl, (blk_cell BK185.out 6).trans rfl, (blk_cell BK185.out 7).trans rfl, (blk_cell BK185.out 8).trans rfl, (blk_cell BK185.out 9).trans rfl, ((HB.out.cell (World.block_lt_of_cell? w _ hw189_0)).trans hw189_0)⟩ (fun hHeld => ?_); refine with_tabW object_str.tab3 object_str.bits3 (fun HT_ HW_ => ?_)
       generalize w17.drew = w19 at BK185 HB HR188 hx189_0 hHeld ⊢
       refine pure_ (i := 0) (N := some 30) (v := ?_) (a' := ?_) #[true, false, false, false, false, false, false, false, false, false, false, false, false] rfl rfl (any_of HT_.out (by kernel_rfl)) (fun _ _ _ h => h) (Or.inl ⟨by rfl, ?_⟩) ?_ ?_
       rotate_left
       ·intro w'
        go_simp
        with_reducible rfl
       rotate_left
       ·simp only [Act.put, List.setIfInBounds_toArray, List.set_cons_zero, List.set_cons_succ, i64_w, i32_w]
        rfl
       refine pure_ (i := 3) (N := some 33) (v := ?_) (a' := ?_) #[true, false, false, true, false, false, false, false, false, false, false, false, false] rfl rfl (any_of HT_.out (by kernel_rfl)) (fun _ _ _ h => h) (Or.inl ⟨by rfl, ?_⟩) ?_ ?_
       rotate_left
       ·intro w'
        go_simp
        with_reducible rfl
       rotate_left
       ·simp only [Act.put, List.setIfInBounds_toArray, List.set_cons_zero, List.set_cons_succ, i64_w, i32_w]
        rfl
       refine take_ (i := 1) (N := some 31) (v := ?_) (a' := ?_) #[true, true, false, true, false, false, false, false, false, false, false, false, false] rfl rfl (take_ofW HT_.out HW_.out (by kernel_rfl)) (fun _ _ _ h => h) (Or.inl ⟨by rfl, ?_⟩) hHeld ?_ ?_
       rotate_left
       ·rintro w' ⟨s0, s1, s2, s3, s4, s5, s6, s7, s8, s9, s10⟩
        go_simp
        with_reducible rfl
       rotate_left
       ·simp only [Act.put, List.setIfInBounds_toArray, List.set_cons_zero, List.set_cons_succ, i64_w, i32_w]
        rfl
       refine pure_ (i := 2) (N := some 32) (v := ?_) (a' := ?_) #[true, true, true, true, false, false, false, false, false, false, false, false, false] rfl rfl (any_of HT_.out (by kernel_rfl)) (fun _ _ _ h => h) (Or.inl ⟨by rfl, ?_⟩) ?_ ?_
       rotate_left
       ·intro w'
        go_simp
        with_reducible rfl
       rotate_left
       ·simp only [Act.put, List.setIfInBounds_toArray, List.set_cons_zero, List.set_cons_succ, i64_w, i32_w]
        rfl
       refine take_ (i := 4) (N := some 34) (v := ?_) (a' := ?_) #[true, true, true, true, true, false, false, false, false, false, false, false, false] rfl rfl (take_ofW HT_.out HW_.out (by kernel_rfl)) (fun _ _ _ h => h) (Or.inl ⟨by rfl, ?_⟩) hHeld ?_ ?_
       rotate_left
       ·rintro w' ⟨s0, s1, s2, s3, s4, s5, s6, s7, s8, s9, s10⟩
        go_simp
        with_reducible rfl
       rotate_left
       ·simp only [Act.put, List.setIfInBounds_toArray, List.set_cons_zero, List.set_cons_succ, i64_w, i32_w]
        rfl
       refine pure_ (i := 5) (N := some 35) (v := ?_) (a' := ?_) #[true, true, true, true, true, true, false, false, false, false, false, false, false] rfl rfl (any_of HT_.out (by kernel_rfl)) (fun _ _ _ h => h) (Or.inl ⟨by rfl, ?_⟩) ?_ ?_
       rotate_left
       ·intro w'
        go_simp
        with_reducible rfl
       rotate_left
       ·simp only [Act.put, List.setIfInBounds_toArray, List.set_cons_zero, List.set_cons_succ, i64_w, i32_w]
        rfl
       refine take_ (i := 6) (N := some 36) (v := ?_) (a' := ?_) #[true, true, true, true, true, true, true, false, false, false, false, false, false] rfl rfl (take_ofW HT_.out HW_.out (by kernel_rfl)) (fun _ _ _ h => h) (Or.inl ⟨by rfl, ?_⟩) hHeld ?_ ?_
       rotate_left
       ·rintro w' ⟨s0, s1, s2, s3, s4, s5, s6, s7, s8, s9, s10⟩
        go_simp
        with_reducible rfl
       rotate_left
       ·simp only [Act.put, List.setIfInBounds_toArray, List.set_cons_zero, List.set_cons_succ, i64_w, i32_w]
        rfl
       refine one_ (i := 7) (N := some 37) #[true, true, true, true, true, true, true, true, false, false, false, false, false] rfl rfl (one_of HT_.out (by kernel_rfl)) (by decide) (fun K hK => ?_)
       refine goes_ Try.func56 (by kernel_rfl) rfl #[.slice A20 (l0_8.drop 1).length (c0_8 - 1), .int .i64 (rd l0_8 0)] (by rfl) rfl rfl (by (try simp only [List.map_toArray, List.map_cons, List.map_nil]); first | done | (rw [show (l0_8.drop 1).length = (l0_8.length - 1) from List.length_drop] <;> rfl) | rfl | (simp only [List.length_drop, List.length_take]; rfl)) ?_
       with_reducible refine (text_Unpack.calls _ _ (l0_8.drop 1) (rd l0_8 0) t190 t191 _ ?side1 ?side2 A16.out).mono ?_
       (case side1 => repeat (first | exact (Kd.C_below HR188.out HB.out) | (with_reducible refine Kd.C_alloc ?_ _) | (with_reducible refine Kd.C_drewN ?_ _) | (with_reducible refine Kd.C_drew ?_)))
       (case side2 => exact HC188.out)
       rintro e w21 ⟨rfl, hb⟩
       refine ⟨_, rfl, ?_⟩
       have n0_ := Aside0.mk (blk_below (g := gb185) (o := .cells #[.int .i64 a0_0, .int .i64 a0_1, .int .i64 a0_2, .int .i64 a0_3, .int .i64 a0_4, .int .i64 a0_5, .int .i64 a0_6, .int .i64 a0_7, .slice (some ad186) l0_8.length c0_8, .slice A0_9 l0_9.length c0_9] 43 (0, 0)) (by (with_reducible repeat (first | refine blk_drewN ?_ _ | refine blk_drew ?_ | refine blk_alloc ?_ _)); exact BK185.out) hb)
       have n1_ := Aside0.mk (below_step (by repeat (first | (with_reducible first | exact HB.out | apply below_alloc | apply pw_below_drewN | apply below_drew1 | refine below_set ?_ GE185.out) | exact HB.out)) hb)
       clear BK185
       clear HB
       have BK185 := n0_
       have HB := n1_
       clear n0_ n1_
       (try clear hb)
       (try clear hb2)
       (try clear hk)
       (try clear hi)
       refine hK.out _ _ ⟨(blk_cell BK185.out 0).trans rfl, (blk_cell BK185.out 1).trans rfl, (blk_cell BK185.out 2).trans rfl, (blk_cell BK185.out 3).trans rfl, (blk_cell BK185.out 4).trans rfl, (blk_cell BK185.out 5).trans rfl, (blk_cell BK185.out 6).trans rfl, (blk_cell BK185.out 7).trans rfl, (blk_cell BK185.out 8).trans rfl, (blk_cell BK185.out 9).trans rfl, ((HB.out.cell (World.block_lt_of_cell? w _ hw189_0)).trans hw189_0)⟩ (fun hHeld => ?_)
       clear hK K
       refine norm_ (a' := ?_) ?_ ?_
       rotate_left
       ·show Act.put _ (some 37) _ = _
        simp only [Act.put, List.setIfInBounds_toArray, List.set_cons_zero, List.set_cons_succ, i64_w, i32_w]
        rfl
       refine pure_ (i := 8) (N := some 29) (v := ?_) (a' := ?_) #[true, true, true, true, true, true, true, true, true, false, false, false, false] rfl rfl (any_of HT_.out (by kernel_rfl)) (fun _ _ _ h => h) (Or.inl ⟨by rfl, ?_⟩) ?_ ?_
       rotate_left
       ·intro w'
        go_simp
        with_reducible rfl
       rotate_left
       ·simp only [Act.put, List.setIfInBounds_toArray, List.set_cons_zero, List.set_cons_succ, i64_w, i32_w]
        rfl
       refine pure_ (i := 9) (N := some 38) (v := ?_) (a' := ?_) #[true, true, true, true, true, true, true, true, true, true, false, false, false] rfl rfl (any_of HT_.out (by kernel_rfl)) (fun _ _ _ h => h) (Or.inl ⟨by rfl, ?_⟩) ?_ ?_
       rotate_left
       ·intro w'
        go_simp
        with_reducible rfl
       rotate_left
       ·simp only [Act.put, List.setIfInBounds_toArray, List.set_cons_zero, List.set_cons_succ, i64_w, i32_w]
        rfl
       refine pure_ (i := 10) (N := some 39) (v := ?_) (a' := ?_) #[true, true, true, true, true, true, true, true, true, true, true, false, false] rfl rfl (any_of HT_.out (by kernel_rfl)) (fun _ _ _ h => h) (Or.inl ⟨by rfl, ?_⟩) ?_ ?_
       rotate_left
       ·intro w'
        go_simp
        with_reducible rfl
       rotate_left
       ·simp only [Act.put, List.setIfInBounds_toArray, List.set_cons_zero, List.set_cons_succ, i64_w, i32_w]
        rfl
       refine pure_ (i := 11) (N := some 3) (v := ?_) (a' := ?_) #[true, true, true, true, true, true, true, true, true, true, true, true, false] rfl rfl (any_of HT_.out (by kernel_rfl)) (fun _ _ _ h => h) (Or.inl ⟨by rfl, ?_⟩) ?_ ?_
       rotate_left
       ·intro w'
        go_simp
        with_reducible rfl
       rotate_left
       ·simp only [Act.put, List.setIfInBounds_toArray, List.set_cons_zero, List.set_cons_succ, i64_w, i32_w]
        rfl
       refine pure_ (i := 12) (N := some 4) (v := ?_) (a' := ?_) #[true, true, true, true, true, true, true, true, true, true, true, true, true] rfl rfl (any_of HT_.out (by kernel_rfl)) (fun _ _ _ h => h) (Or.inl ⟨by rfl, ?_⟩) ?_ ?_
       rotate_left
       ·intro w'
        go_simp
        with_reducible rfl
       rotate_left
       ·simp only [Act.put, List.setIfInBounds_toArray, List.set_cons_zero, List.set_cons_succ, i64_w, i32_w]
        rfl
       refine done_ (done_of HT_.out (by kernel_rfl)) ?_
       try go_wp2
       go_ret
       exact ⟨by first | rfl | (simp [errW_none, errW_some] <;> rfl) | (simp [*, errW_none, errW_some] <;> rfl), by repeat (first | (with_reducible first | exact HB.out | apply below_alloc | apply pw_below_drewN | apply below_drew1 | refine below_set ?_ GE185.out) | exact HB.out)⟩
      ·rw [if_neg c15] at H
       exact absurd H (by simp)
   ·rw [if_neg c8] at H
    exact absurd H (by simp)

end Go.Proofs.Ytepoalgoombpeaa.Print
