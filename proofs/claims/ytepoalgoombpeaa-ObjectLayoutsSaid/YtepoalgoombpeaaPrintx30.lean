/- PROVED: each Lean function of this text answers as the Go function of its name does. Conditions: none beyond what each theorem states. (Written by the session's own program xprint.py.) -/
import Derived.Test.YtepoalgoombpeaaPrintx0
import Derived.Test.YtepoalgoombpeaaPrintx28
import Derived.Test.YtepoalgoombpeaaPrintx29
namespace Go.Proofs.Ytepoalgoombpeaa.Print
open Go.RowKit Go.Proofs.YtepoalgoombpeaaW.PrintWords Go.Proofs.YtepoalgoombpeaaW.PrintLast Go.Proofs.YtepoalgoombpeaaW.PrintMore
attribute [local go_sem] max2_int min2_int max_two min_two max_three min_three max_four min_four   -- for this text's walks alone
set_option linter.unusedVariables false
set_option linter.unusedSimpArgs false

/-! ### heirloomref04_fits: function 43 -/
def fitsTable (k : Nat) (l8 : List Int) (l9 : List S38) : Option Bool :=
  if l8.length = 2 ∧ 0 ≤ rd l8 0 ∧ rd l8 0 ≤ 4096 ∧ 0 ≤ rd l8 1 ∧ rd l8 1 ≤ 4096 then ((heirloomref04_power.f k (rd l8 1)).bind fun p => some (p && ((l9.length : Int) == 1 + rd l8 0 + 2 * rd l8 1) && ((rd_T38 l9 0).f0 == 0 || (rd_T38 l9 0).f0 == 5))) else some false
def fitsFunc (l8 : List Int) (l9 : List S38) : Bool := (l9.drop 1).all (fun v => v.f0 == 7) && ((l8.length : Int) == 0) && decide ((l9.length : Int) > 0) && ((rd_T38 l9 0).f0 == 9)
def fitsStr (k : Nat) (l8 : List Int) (l9 : List S38) : Option Bool :=
  if (l9.length : Int) = 0 ∧ 0 < (l8.length : Int) ∧ 0 ≤ rd l8 0 ∧ rd l8 0 ≤ 32768 then ((heirloomref02_Unpack.f k (l8.drop 1) (rd l8 0)).bind fun u => some (u.2 == 0)) else some false
def heirloomref04_fits.f (k : Nat) (a0 a1 a2 a3 a4 a5 a6 a7 : Int) (l8 : List Int) (l9 : List S38) : Option Bool :=
  if a0 = 4 then fitsStr k l8 l9 else if a0 = 5 then fitsTable k l8 l9 else if a0 = 6 then (if l9.length ≤ 70368744177664 then some (fitsFunc l8 l9) else none)
  else if a0 = 7 then some (((l8.length : Int) == 0) && ((l9.length : Int) == 1)) else if a0 = 8 then some ((l8.length : Int) == 0) else some ((l8.length : Int) == 1)
theorem heirloomref04_fits.mono : ∀ a0 a1 a2 a3 a4 a5 a6 a7 l8 l9 k, LeO (heirloomref04_fits.f k a0 a1 a2 a3 a4 a5 a6 a7 l8 l9) (heirloomref04_fits.f (k + 1) a0 a1 a2 a3 a4 a5 a6 a7 l8 l9) := by
  intro a0 a1 a2 a3 a4 a5 a6 a7 l8 l9 k
  unfold heirloomref04_fits.f fitsStr fitsTable
  repeat' first
    | exact heirloomref04_power.mono _ _
    | exact heirloomref02_Unpack.mono _ _ _
    | exact LeO.refl _
    | refine LeO.ite ?_ ?_
    | refine LeO.bind ?_ (fun _ => ?_)
-- WALKS
def heirloomref04_fits.T5 : Bool × List (List Nat × List Nat) := (true, [([], []), ([0], [0]), ([1], [1]), ([], []), ([3], [3]), ([4], [4]), ([5], [5]), ([2, 6], [2, 6]), ([7], [7]), ([8], [8]), ([8], [8]), ([9, 7, 0, 1, 2, 3, 4, 5, 6, 7, 8, 9], [9]), ([10, 11, 0, 1, 2, 3, 4, 5, 6, 7, 8, 9, 10, 11], [10])])
def heirloomref04_fits.B5 : List Nat := [0, 1, 3, 0, 8, 24, 56, 127, 255, 511, 511, 1023, 4095]
theorem heirloomref04_fits.tab5 : rtab .any (opsOf Try.f43 5) = heirloomref04_fits.T5 := by kernel_rfl
theorem heirloomref04_fits.bits5 : waitsOk heirloomref04_fits.T5.2 heirloomref04_fits.B5 = true := by kernel_rfl
set_option maxHeartbeats 8000000 in
set_option maxRecDepth 100000 in
theorem heirloomref04_fits.strOk (k : Nat) (a0_0 : Int) (a0_1 : Int) (a0_2 : Int) (a0_3 : Int) (a0_4 : Int) (a0_5 : Int) (a0_6 : Int) (a0_7 : Int) (A0_8 : Option Addr) (c0_8 : Nat) (l0_8 : List Int) (A0_9 : Option Addr) (c0_9 : Nat) (l0_9 : List (S38)) (r : Bool) (w : World) (hr0_8 : Kd.C (Kd.int .i64) w A0_8 l0_8.length l0_8) (hc0_8 : l0_8.length ≤ c0_8) (hr0_9 : Kd.C k38 w A0_9 l0_9.length l0_9) (hc0_9 : l0_9.length ≤ c0_9) (h : ((heirloomref02_Unpack.f k (l0_8.drop 1) (rd l0_8 0)).bind fun bt362 => (some (bt362.2 == 0))) = some r) (c2 : a0_0 = 4) (c3 : (l0_9.length : Int) = 0) (c4 : ¬ ((l0_8.length : Int) = 0)) (c7 : 0 < (l0_8.length : Int)) (c8 : ¬ ((rd l0_8 0) < 0)) (c11 : ¬ ((rd l0_8 0) > 32768)) (c14 : 1 ≤ (l0_8.length : Int)) :
  Calls Try.prog 43 #[.agg #[.int .i64 a0_0, .int .i64 a0_1, .int .i64 a0_2, .int .i64 a0_3, .int .i64 a0_4, .int .i64 a0_5, .int .i64 a0_6, .int .i64 a0_7, .slice A0_8 l0_8.length c0_8, .slice A0_9 l0_9.length c0_9]] w fun e w' => e = .returned (.bool r) ∧ Below w.heap.size w w' := by
 have hu43 := Try.underlying43
 have HR0_8 := Aside0.mk hr0_8
 have HC0_8 := Aside0.mk hc0_8
 clear hr0_8 hc0_8
 have HR0_9 := Aside0.mk hr0_9
 have HC0_9 := Aside0.mk hc0_9
 clear hr0_9 hc0_9
 have HB := Aside0.mk (Below.refl w.heap.size w)
 have H := h
 clear h
 have c2b0 : (a0_0 == 4) = true := beq_iff_eq.mpr c2
 have c2b1 : (a0_0 != 4) = false := bne_eq_false_iff_eq.mpr c2
 clear c2
 have c3b0 : ((l0_9.length : Int) == 0) = true := beq_iff_eq.mpr c3
 have c3b1 : ((l0_9.length : Int) != 0) = false := bne_eq_false_iff_eq.mpr c3
 clear c3
 have c4b0 : ((l0_8.length : Int) == 0) = false := beq_eq_false_iff_ne.mpr c4
 have c4b1 : ((l0_8.length : Int) != 0) = true := bne_iff_ne.mpr c4
 have c4b2 : ¬ (l0_8 = []) := fun h_ => c4 (by rw [h_]; rfl)
 have c7b0 : decide (0 < (l0_8.length : Int)) = true := decide_eq_true c7
 have c7b1 : decide (0 < l0_8.length) = true := decide_eq_true (by omega)
 clear c7
 have c8b0 : decide ((rd l0_8 0) < 0) = false := decide_eq_false c8
 clear c8
 have c11b0 : decide (32768 < (rd l0_8 0)) = false := decide_eq_false c11
 clear c11
 have c14b0 := eq_true c14
 have c14b1 : decide (1 ≤ (l0_8.length : Int)) = true := decide_eq_true c14
 clear c14
 replace H := Option.bind_eq_some_iff.mp H
 obtain ⟨⟨t362, t363⟩, A150, H⟩ := H
 replace H : (some (t363 == 0)) = some r := H
 have A15 := Aside0.mk A150
 clear A150
 obtain rfl := Option.some.inj H
 go_enter Try.func43, Try.ntmps43
 try go_wp2_with (first | ((with_reducible refine gate_dst (N := 1) rfl ?_); (try (refine gate_guard (by rfl) ?_; dsimp only)); refine box_event ?hg (N := 1) ?hd (cs := #[.int .i64 a0_0, .int .i64 a0_1, .int .i64 a0_2, .int .i64 a0_3, .int .i64 a0_4, .int .i64 a0_5, .int .i64 a0_6, .int .i64 a0_7, .slice A0_8 l0_8.length c0_8, .slice A0_9 l0_9.length c0_9]) (t := 43) ?hr ?_; (case hd => rfl); (case hg => rfl); (case hr => first | (go_simp; done) | (go_simp; rfl)); intro gb357 hg w16 hbox hb; have n0_ := Aside0.mk (below_step (by repeat (first | (with_reducible first | exact HB.out | apply below_alloc | apply pw_below_drewN | apply below_drew1) | exact HB.out)) hb); have n1_ := Aside0.mk (hbox); have n2_ := Aside0.mk ((by rw [hg]; exact (below_size (by repeat (first | (with_reducible first | exact HB.out | apply below_alloc | apply pw_below_drewN | apply below_drew1) | exact HB.out))) : w.heap.size ≤ gb357)); have n3_ := Aside0.mk ((by rw [hg]; exact (below_size (by repeat (first | (with_reducible first | exact HB.out | apply below_alloc | apply pw_below_drewN | apply below_drew1) | exact HB.out))) : w.heap.size ≤ gb357)); clear HB; have HB := n0_; have BK357 := n1_; have GW357 := n2_; have GE357 := n3_; clear n0_ n1_ n2_ n3_; clear hb hbox hg; have hcz17_0 : w16.cell? ⟨gb357, 0, none⟩ = some (.int .i64 a0_0) := (blk_cell BK357.out 0).trans rfl; have hcz17_1 : w16.cell? ⟨gb357, 1, none⟩ = some (.int .i64 a0_1) := (blk_cell BK357.out 1).trans rfl; have hcz17_2 : w16.cell? ⟨gb357, 2, none⟩ = some (.int .i64 a0_2) := (blk_cell BK357.out 2).trans rfl; have hcz17_3 : w16.cell? ⟨gb357, 3, none⟩ = some (.int .i64 a0_3) := (blk_cell BK357.out 3).trans rfl; have hcz17_4 : w16.cell? ⟨gb357, 4, none⟩ = some (.int .i64 a0_4) := (blk_cell BK357.out 4).trans rfl; have hcz17_5 : w16.cell? ⟨gb357, 5, none⟩ = some (.int .i64 a0_5) := (blk_cell BK357.out 5).trans rfl; have hcz17_6 : w16.cell? ⟨gb357, 6, none⟩ = some (.int .i64 a0_6) := (blk_cell BK357.out 6).trans rfl; have hcz17_7 : w16.cell? ⟨gb357, 7, none⟩ = some (.int .i64 a0_7) := (blk_cell BK357.out 7).trans rfl; have hcz17_8 : w16.cell? ⟨gb357, 8, none⟩ = some (.slice A0_8 l0_8.length c0_8) := (blk_cell BK357.out 8).trans rfl; have hcz17_9 : w16.cell? ⟨gb357, 9, none⟩ = some (.slice A0_9 l0_9.length c0_9) := (blk_cell BK357.out 9).trans rfl; have hfz17_0 := blk_frozen BK357.out 0; have hfz17_1 := blk_frozen BK357.out 1; have hfz17_2 := blk_frozen BK357.out 2; have hfz17_3 := blk_frozen BK357.out 3; have hfz17_4 := blk_frozen BK357.out 4; have hfz17_5 := blk_frozen BK357.out 5; have hfz17_6 := blk_frozen BK357.out 6; have hfz17_7 := blk_frozen BK357.out 7; have hfz17_8 := blk_frozen BK357.out 8; have hfz17_9 := blk_frozen BK357.out 9; have p358 : 0 ≤ (0 : Int) := (by omega); have q358 : 0 < (l0_8.length : Int) := of_decide_eq_true (by first | (with_reducible assumption) | assumption); obtain ⟨ad358, e358, hx358_0⟩ := Kd.at_int HR0_8.out 0 p358 q358; cases e358; have qi358 : (0 < l0_8.length) = True := eq_true (by omega); (try rw [show ((0 : Int)).toNat = 0 from rfl] at hx358_0); (try rw [Addr.add_zero'] at hx358_0); replace hx358_0 := (HB.out.cell (World.block_lt_of_cell? w _ hx358_0)).trans hx358_0; replace p358 := eq_true p358; replace q358 := eq_true q358; have p359 : 0 ≤ (0 : Int) := (by omega); have q359 : 0 < (l0_8.length : Int) := of_decide_eq_true (by first | (with_reducible assumption) | assumption); obtain ⟨ad359, e359, hx359_0⟩ := Kd.at_int HR0_8.out 0 p359 q359; obtain rfl : ad358 = ad359 := (by injection e359); have qi359 : (0 < l0_8.length) = True := eq_true (by omega); (try rw [show ((0 : Int)).toNat = 0 from rfl] at hx359_0); (try rw [Addr.add_zero'] at hx359_0); replace hx359_0 := (HB.out.cell (World.block_lt_of_cell? w _ hx359_0)).trans hx359_0; replace p359 := eq_true p359; replace q359 := eq_true q359))
 have n0_ := Aside0.mk (blk_drew BK357.out)
 have n1_ := Aside0.mk (below_drew1 HB.out)
 clear BK357
 clear HB
 have BK357 := n0_
 have HB := n1_
 clear n0_ n1_
 obtain ⟨i019, hi019, _, hsz19, _⟩ := info_parts info2
 obtain ⟨A19, hcut19, hA19, hC19⟩ := print_drop_of (P := Try.prog) (Value.int .i64) 0 40 2 .i64 Try.underlying40 hi019 hsz19 (some ad358) c0_8 l0_8 1 (by omega) (of_decide_eq_true (by first | (with_reducible assumption) | assumption)) HC0_8.out
 have HR360 := Aside0.mk (Kd.C_of_reads (h1 := fun _ => rfl) (hA19 _ (Kd.reads_of_C HR0_8.out)))
 have HC360 := Aside0.mk hC19
 clear hA19 hC19 hi019 hsz19
 have p361 : 0 ≤ (0 : Int) := (by omega)
 have q361 : 0 < (l0_8.length : Int) := of_decide_eq_true (by first | (with_reducible assumption) | assumption)
 obtain ⟨ad361, e361, hx361_0⟩ := Kd.at_int HR0_8.out 0 p361 q361
 have hw361_0 := hx361_0
 (try rw [show ((0 : Int)).toNat = 0 from rfl] at hw361_0)
 (try rw [show 0 * 1 = 0 from rfl] at hw361_0)
 (try rw [Addr.add_zero'] at hw361_0)
 obtain rfl : ad358 = ad361 := (by injection e361)
 have qi361 : (0 < l0_8.length) = True := eq_true (by omega)
 (try rw [show ((0 : Int)).toNat = 0 from rfl] at hx361_0)
 (try rw [Addr.add_zero'] at hx361_0)
 replace hx361_0 := (HB.out.cell (World.block_lt_of_cell? w _ hx361_0)).trans hx361_0
 replace p361 := eq_true p361
 replace q361 := eq_true q361
 refine start_ (n := 13) (S := fun w' => w'.cell? ⟨gb357, 0, none⟩ = some (.int .i64 a0_0) ∧ w'.cell? ⟨gb357, 1, none⟩ = some (.int .i64 a0_1) ∧ w'.cell? ⟨gb357, 2, none⟩ = some (.int .i64 a0_2) ∧ w'.cell? ⟨gb357, 3, none⟩ = some (.int .i64 a0_3) ∧ w'.cell? ⟨gb357, 4, none⟩ = some (.int .i64 a0_4) ∧ w'.cell? ⟨gb357, 5, none⟩ = some (.int .i64 a0_5) ∧ w'.cell? ⟨gb357, 6, none⟩ = some (.int .i64 a0_6) ∧ w'.cell? ⟨gb357, 7, none⟩ = some (.int .i64 a0_7) ∧ w'.cell? ⟨gb357, 8, none⟩ = some (.slice (some ad358) l0_8.length c0_8) ∧ w'.cell? ⟨gb357, 9, none⟩ = some (.slice A0_9 l0_9.length c0_9) ∧ w'.cell? ad358 = some (.int .i64 (rd l0_8 0))) (ds := []) #[false, false, false, false, false, false, false, false, false, false, false, false, false] (by kernel_rfl) rfl rfl ⟨(blk_cell BK357.out 0).trans rfl, (blk_cell BK357.out 1).trans rfl, (blk_cell BK357.out 2).trans rfl, (blk_cell BK357.out 3).trans rfl, (blk_cell BK357.out 4).trans rfl, (blk_cell BK357.out 5).trans rfl, (blk_cell BK357.out 6).trans rfl, (blk_cell BK357.out 7).trans rfl, (blk_cell BK357.out 8).trans rfl, (blk_cell BK357.out 9).trans rfl, ((HB.out.cell (World.block_lt_of_cell? w _ hw361_0)).trans hw361_0)⟩ (fun hHeld => ?_); refine with_tabW heirloomref04_fits.tab5 heirloomref04_fits.bits5 (fun HT_ HW_ => ?_)
 generalize w16.drew = w18 at BK357 HB HR360 hx361_0 hHeld ⊢
 refine pure_ (i := 0) (N := some 37) (v := ?_) (a' := ?_) #[true, false, false, false, false, false, false, false, false, false, false, false, false] rfl rfl (any_of HT_.out (by kernel_rfl)) (fun _ _ _ h => h) (Or.inl ⟨by rfl, ?_⟩) ?_ ?_
 rotate_left
 ·intro w'
  go_simp
  with_reducible rfl
 rotate_left
 ·simp only [Act.put, List.setIfInBounds_toArray, List.set_cons_zero, List.set_cons_succ, i64_w, i32_w]
  rfl
 refine pure_ (i := 3) (N := some 40) (v := ?_) (a' := ?_) #[true, false, false, true, false, false, false, false, false, false, false, false, false] rfl rfl (any_of HT_.out (by kernel_rfl)) (fun _ _ _ h => h) (Or.inl ⟨by rfl, ?_⟩) ?_ ?_
 rotate_left
 ·intro w'
  go_simp
  with_reducible rfl
 rotate_left
 ·simp only [Act.put, List.setIfInBounds_toArray, List.set_cons_zero, List.set_cons_succ, i64_w, i32_w]
  rfl
 refine take_ (i := 1) (N := some 38) (v := ?_) (a' := ?_) #[true, true, false, true, false, false, false, false, false, false, false, false, false] rfl rfl (take_ofW HT_.out HW_.out (by kernel_rfl)) (fun _ _ _ h => h) (Or.inl ⟨by rfl, ?_⟩) hHeld ?_ ?_
 rotate_left
 ·rintro w' ⟨s0, s1, s2, s3, s4, s5, s6, s7, s8, s9, s10⟩
  go_simp
  with_reducible rfl
 rotate_left
 ·simp only [Act.put, List.setIfInBounds_toArray, List.set_cons_zero, List.set_cons_succ, i64_w, i32_w]
  rfl
 refine pure_ (i := 2) (N := some 39) (v := ?_) (a' := ?_) #[true, true, true, true, false, false, false, false, false, false, false, false, false] rfl rfl (any_of HT_.out (by kernel_rfl)) (fun _ _ _ h => h) (Or.inl ⟨by rfl, ?_⟩) ?_ ?_
 rotate_left
 ·intro w'
  go_simp
  with_reducible rfl
 rotate_left
 ·simp only [Act.put, List.setIfInBounds_toArray, List.set_cons_zero, List.set_cons_succ, i64_w, i32_w]
  rfl
 refine take_ (i := 4) (N := some 41) (v := ?_) (a' := ?_) #[true, true, true, true, true, false, false, false, false, false, false, false, false] rfl rfl (take_ofW HT_.out HW_.out (by kernel_rfl)) (fun _ _ _ h => h) (Or.inl ⟨by rfl, ?_⟩) hHeld ?_ ?_
 rotate_left
 ·rintro w' ⟨s0, s1, s2, s3, s4, s5, s6, s7, s8, s9, s10⟩
  go_simp
  with_reducible rfl
 rotate_left
 ·simp only [Act.put, List.setIfInBounds_toArray, List.set_cons_zero, List.set_cons_succ, i64_w, i32_w]
  rfl
 refine pure_ (i := 5) (N := some 42) (v := ?_) (a' := ?_) #[true, true, true, true, true, true, false, false, false, false, false, false, false] rfl rfl (any_of HT_.out (by kernel_rfl)) (fun _ _ _ h => h) (Or.inl ⟨by rfl, ?_⟩) ?_ ?_
 rotate_left
 ·intro w'
  go_simp
  with_reducible rfl
 rotate_left
 ·simp only [Act.put, List.setIfInBounds_toArray, List.set_cons_zero, List.set_cons_succ, i64_w, i32_w]
  rfl
 refine take_ (i := 6) (N := some 43) (v := ?_) (a' := ?_) #[true, true, true, true, true, true, true, false, false, false, false, false, false] rfl rfl (take_ofW HT_.out HW_.out (by kernel_rfl)) (fun _ _ _ h => h) (Or.inl ⟨by rfl, ?_⟩) hHeld ?_ ?_
 rotate_left
 ·rintro w' ⟨s0, s1, s2, s3, s4, s5, s6, s7, s8, s9, s10⟩
  go_simp
  with_reducible rfl
 rotate_left
 ·simp only [Act.put, List.setIfInBounds_toArray, List.set_cons_zero, List.set_cons_succ, i64_w, i32_w]
  rfl
 refine one_ (i := 7) (N := some 44) #[true, true, true, true, true, true, true, true, false, false, false, false, false] rfl rfl (one_of HT_.out (by kernel_rfl)) (by decide) (fun K hK => ?_)
 refine goes_ Try.func53 (by kernel_rfl) rfl #[.slice A19 (l0_8.drop 1).length (c0_8 - 1), .int .i64 (rd l0_8 0)] (by rfl) rfl rfl (by (try simp only [List.map_toArray, List.map_cons, List.map_nil]); first | done | (rw [show (l0_8.drop 1).length = (l0_8.length - 1) from List.length_drop] <;> rfl) | rfl | (simp only [List.length_drop, List.length_take]; rfl)) ?_
 with_reducible refine (heirloomref02_Unpack.calls k _ _ (l0_8.drop 1) (rd l0_8 0) t362 t363 _ ?side1 ?side2 A15.out).mono ?_
 (case side1 => repeat (first | exact (Kd.C_below HR360.out HB.out) | (with_reducible refine Kd.C_alloc ?_ _) | (with_reducible refine Kd.C_drewN ?_ _) | (with_reducible refine Kd.C_drew ?_)))
 (case side2 => exact HC360.out)
 rintro e w20 ⟨rfl, hb⟩
 refine ⟨_, rfl, ?_⟩
 have n0_ := Aside0.mk (blk_below (g := gb357) (o := .cells #[.int .i64 a0_0, .int .i64 a0_1, .int .i64 a0_2, .int .i64 a0_3, .int .i64 a0_4, .int .i64 a0_5, .int .i64 a0_6, .int .i64 a0_7, .slice (some ad358) l0_8.length c0_8, .slice A0_9 l0_9.length c0_9] 43 (0, 0)) (by (with_reducible repeat (first | refine blk_drewN ?_ _ | refine blk_drew ?_ | refine blk_alloc ?_ _)); exact BK357.out) hb)
 have n1_ := Aside0.mk (below_step (by repeat (first | (with_reducible first | exact HB.out | apply below_alloc | apply pw_below_drewN | apply below_drew1 | refine below_set ?_ GE357.out) | exact HB.out)) hb)
 clear BK357
 clear HB
 have BK357 := n0_
 have HB := n1_
 clear n0_ n1_
 (try clear hb)
 (try clear hb2)
 (try clear hk)
 (try clear hi)
 refine hK.out _ _ ⟨(blk_cell BK357.out 0).trans rfl, (blk_cell BK357.out 1).trans rfl, (blk_cell BK357.out 2).trans rfl, (blk_cell BK357.out 3).trans rfl, (blk_cell BK357.out 4).trans rfl, (blk_cell BK357.out 5).trans rfl, (blk_cell BK357.out 6).trans rfl, (blk_cell BK357.out 7).trans rfl, (blk_cell BK357.out 8).trans rfl, (blk_cell BK357.out 9).trans rfl, ((HB.out.cell (World.block_lt_of_cell? w _ hw361_0)).trans hw361_0)⟩ (fun hHeld => ?_)
 clear hK K
 refine norm_ (a' := ?_) ?_ ?_
 rotate_left
 ·show Act.put _ (some 44) _ = _
  simp only [Act.put, List.setIfInBounds_toArray, List.set_cons_zero, List.set_cons_succ, i64_w, i32_w]
  rfl
 refine pure_ (i := 8) (N := some 36) (v := ?_) (a' := ?_) #[true, true, true, true, true, true, true, true, true, false, false, false, false] rfl rfl (any_of HT_.out (by kernel_rfl)) (fun _ _ _ h => h) (Or.inl ⟨by rfl, ?_⟩) ?_ ?_
 rotate_left
 ·intro w'
  go_simp
  with_reducible rfl
 rotate_left
 ·simp only [Act.put, List.setIfInBounds_toArray, List.set_cons_zero, List.set_cons_succ, i64_w, i32_w]
  rfl
 refine pure_ (i := 9) (N := some 45) (v := ?_) (a' := ?_) #[true, true, true, true, true, true, true, true, true, true, false, false, false] rfl rfl (any_of HT_.out (by kernel_rfl)) (fun _ _ _ h => h) (Or.inl ⟨by rfl, ?_⟩) ?_ ?_
 rotate_left
 ·intro w'
  go_simp
  with_reducible rfl
 rotate_left
 ·simp only [Act.put, List.setIfInBounds_toArray, List.set_cons_zero, List.set_cons_succ, i64_w, i32_w]
  rfl
 refine pure_ (i := 10) (N := some 46) (v := ?_) (a' := ?_) #[true, true, true, true, true, true, true, true, true, true, true, false, false] rfl rfl (any_of HT_.out (by kernel_rfl)) (fun _ _ _ h => h) (Or.inl ⟨by rfl, ?_⟩) ?_ ?_
 rotate_left
 ·intro w'
  go_simp
  with_reducible rfl
 rotate_left
 ·simp only [Act.put, List.setIfInBounds_toArray, List.set_cons_zero, List.set_cons_succ, i64_w, i32_w]
  rfl
 refine pure_ (i := 11) (N := some 4) (v := ?_) (a' := ?_) #[true, true, true, true, true, true, true, true, true, true, true, true, false] rfl rfl (any_of HT_.out (by kernel_rfl)) (fun _ _ _ h => h) (Or.inl ⟨by rfl, ?_⟩) ?_ ?_
 rotate_left
 ·intro w'
  go_simp
  with_reducible rfl
 rotate_left
 ·simp only [Act.put, List.setIfInBounds_toArray, List.set_cons_zero, List.set_cons_succ, i64_w, i32_w]
  rfl
 refine pure_ (i := 12) (N := some 5) (v := ?_) (a' := ?_) #[true, true, true, true, true, true, true, true, true, true, true, true, true] rfl rfl (any_of HT_.out (by kernel_rfl)) (fun _ _ _ h => h) (Or.inl ⟨by rfl, ?_⟩) ?_ ?_
 rotate_left
 ·intro w'
  go_simp
  with_reducible rfl
 rotate_left
 ·simp only [Act.put, List.setIfInBounds_toArray, List.set_cons_zero, List.set_cons_succ, i64_w, i32_w]
  rfl
 refine done_ (done_of HT_.out (by kernel_rfl)) ?_
 try go_wp2
 go_ret
 exact ⟨by first | rfl | (simp [errW_none, errW_some] <;> rfl) | (simp [*, errW_none, errW_some] <;> rfl), by repeat (first | (with_reducible first | exact HB.out | apply below_alloc | apply pw_below_drewN | apply below_drew1 | refine below_set ?_ GE357.out) | exact HB.out)⟩

set_option maxHeartbeats 4000000 in
set_option maxRecDepth 100000 in
theorem heirloomref04_fits.strNo (k : Nat) (a0 a1 a2 a3 a4 a5 a6 a7 : Int) (A8 : Option Addr) (c8 : Nat) (l8 : List Int) (A9 : Option Addr) (c9 : Nat) (l9 : List S38) (r : Bool) (w : World) (hr8 : Kd.C (Kd.int .i64) w A8 l8.length l8) (hc8 : l8.length ≤ c8) (hr9 : Kd.C k38 w A9 l9.length l9) (hc9 : l9.length ≤ c9) (h4 : a0 = 4) (h : ¬ ((l9.length : Int) = 0 ∧ 0 < (l8.length : Int) ∧ 0 ≤ rd l8 0 ∧ rd l8 0 ≤ 32768)) (hrf : r = false) :
    Calls Try.prog 43 #[.agg #[.int .i64 a0, .int .i64 a1, .int .i64 a2, .int .i64 a3, .int .i64 a4, .int .i64 a5, .int .i64 a6, .int .i64 a7, .slice A8 l8.length c8, .slice A9 l9.length c9]] w fun e w' => e = .returned (.bool r) ∧ Below w.heap.size w w' := by
  subst h4 hrf
  have HR8 := Aside0.mk hr8
  clear hr8 hr9 hc8 hc9
  by_cases c1 : (l9.length : Int) = 0
  · have b1 : ((l9.length : Int) == 0) = true := beq_iff_eq.mpr c1
    have b2 : ((l9.length : Int) != 0) = false := bne_eq_false_iff_eq.mpr c1
    by_cases c2 : (l8.length : Int) = 0
    · have b3 : ((l8.length : Int) == 0) = true := beq_iff_eq.mpr c2
      clear c1 c2 h
      go_enter Try.func43, Try.ntmps43
      go_wp2
      go_ret
      exact ⟨by first | rfl | (simp; done) | (simp [*]; done), below_alloc (Below.refl _ _) _⟩
    · have b3 : ((l8.length : Int) == 0) = false := beq_eq_false_iff_ne.mpr c2
      have b4 : decide (0 < (l8.length : Int)) = true := decide_eq_true (by omega)
      have b5 : decide (0 < l8.length) = true := decide_eq_true (by omega)
      have c3 : 0 < l8.length := by omega
      obtain ⟨ad, e8, hx⟩ := Kd.at_int HR8.out 0 (by omega) (by omega)
      cases e8
      have HXA : Aside0 (∀ o, (w.alloc o).cell? (ad.add 0) = some (.int .i64 (rd l8 0))) := ⟨fun o => ((below_alloc (Below.refl _ _) o).cell (World.block_lt_of_cell? w _ hx)).trans hx⟩
      have hxa := HXA.out
      have hxb : ∀ o, (w.alloc o).cell? ad = some (.int .i64 (rd l8 0)) := (by cases ad; rfl : ad.add 0 = ad) ▸ hxa
      clear hx
      obtain ⟨x, hxx⟩ : ∃ x, x = rd l8 0 := ⟨_, rfl⟩
      rw [← hxx] at hxa hxb h HXA
      clear hxx
      by_cases c4 : x < 0
      · have b6 : decide (x < 0) = true := decide_eq_true c4
        clear c1 c2 c4 h
        go_enter Try.func43, Try.ntmps43
        go_wp2
        go_ret
        exact ⟨by first | rfl | (simp; done) | (simp [*]; done), below_alloc (Below.refl _ _) _⟩
      · have b6 : decide (x < 0) = false := decide_eq_false c4
        have b7 : decide (32768 < x) = true := decide_eq_true (by omega)
        clear c1 c2 c4 h
        go_enter Try.func43, Try.ntmps43
        go_wp2
        go_ret
        exact ⟨by first | rfl | (simp; done) | (simp [*]; done), below_alloc (Below.refl _ _) _⟩
  · have b1 : ((l9.length : Int) == 0) = false := beq_eq_false_iff_ne.mpr c1
    have b2 : ((l9.length : Int) != 0) = true := bne_iff_ne.mpr c1
    clear c1 h
    go_enter Try.func43, Try.ntmps43
    go_wp2
    go_ret
    exact ⟨by first | rfl | (simp; done) | (simp [*]; done), below_alloc (Below.refl _ _) _⟩
set_option maxHeartbeats 4000000 in
set_option maxRecDepth 100000 in
theorem heirloomref04_fits.small (k : Nat) (a0 a1 a2 a3 a4 a5 a6 a7 : Int) (A8 : Option Addr) (c8 : Nat) (l8 : List Int) (A9 : Option Addr) (c9 : Nat) (l9 : List S38) (r : Bool) (w : World) (hr8 : Kd.C (Kd.int .i64) w A8 l8.length l8) (hc8 : l8.length ≤ c8) (hr9 : Kd.C k38 w A9 l9.length l9) (hc9 : l9.length ≤ c9) (h4 : a0 ≠ 4) (h5 : a0 ≠ 5) (h6 : a0 ≠ 6) (hrr : r = if a0 = 7 then (((l8.length : Int) == 0) && ((l9.length : Int) == 1)) else if a0 = 8 then ((l8.length : Int) == 0) else ((l8.length : Int) == 1)) :
    Calls Try.prog 43 #[.agg #[.int .i64 a0, .int .i64 a1, .int .i64 a2, .int .i64 a3, .int .i64 a4, .int .i64 a5, .int .i64 a6, .int .i64 a7, .slice A8 l8.length c8, .slice A9 l9.length c9]] w fun e w' => e = .returned (.bool r) ∧ Below w.heap.size w w' := by
  clear hr8 hr9 hc8 hc9
  have b4 : (a0 == 4) = false := beq_eq_false_iff_ne.mpr h4
  have b5 : (a0 == 5) = false := beq_eq_false_iff_ne.mpr h5
  have b6 : (a0 == 6) = false := beq_eq_false_iff_ne.mpr h6
  clear h4 h5 h6
  by_cases c7 : a0 = 7
  · rw [if_pos c7] at hrr
    subst c7
    by_cases c1 : (l8.length : Int) = 0
    · have e1 : ((l8.length : Int) == 0) = true := beq_iff_eq.mpr c1
      rw [e1] at hrr
      subst hrr
      clear c1
      go_enter Try.func43, Try.ntmps43
      go_wp2
      go_ret
      exact ⟨by first | rfl | (simp; done) | (simp [*]; done), below_alloc (Below.refl _ _) _⟩
    · have e1 : ((l8.length : Int) == 0) = false := beq_eq_false_iff_ne.mpr c1
      rw [e1] at hrr
      subst hrr
      clear c1
      go_enter Try.func43, Try.ntmps43
      go_wp2
      go_ret
      exact ⟨by first | rfl | (simp; done) | (simp [*]; done), below_alloc (Below.refl _ _) _⟩
  · rw [if_neg c7] at hrr
    have b7 : (a0 == 7) = false := beq_eq_false_iff_ne.mpr c7
    clear c7
    by_cases c8 : a0 = 8
    · rw [if_pos c8] at hrr
      subst c8 hrr
      go_enter Try.func43, Try.ntmps43
      go_wp2
      go_ret
      exact ⟨by first | rfl | (simp; done) | (simp [*]; done), below_alloc (Below.refl _ _) _⟩
    · rw [if_neg c8] at hrr
      have b8 : (a0 == 8) = false := beq_eq_false_iff_ne.mpr c8
      subst hrr
      clear c8
      go_enter Try.func43, Try.ntmps43
      go_wp2
      go_ret
      exact ⟨by first | rfl | (simp; done) | (simp [*]; done), below_alloc (Below.refl _ _) _⟩
theorem fitsFunc.bad {l8 : List Int} {l9 : List S38} {q : Nat} (hq : q < l9.length) (h1 : 1 ≤ q) (h : (rd_T38 l9 q).f0 ≠ 7) : fitsFunc l8 l9 = false := by
  have hm : (l9.drop 1).all (fun v => v.f0 == 7) = false := by
    rw [List.all_eq_false]
    refine ⟨l9[q], ?_, ?_⟩
    · rw [List.mem_drop_iff_getElem]
      exact ⟨q - 1, by omega, by simp [show 1 + (q - 1) = q by omega]⟩
    · have e : rd_T38 l9 q = l9[q] := by simp [rd_T38, List.getD, hq]
      rw [e] at h
      simpa using h
  unfold fitsFunc
  rw [hm]
  rfl
theorem fitsFunc.all {l9 : List S38} (h : ∀ j : Nat, 1 ≤ j → j < l9.length → (rd_T38 l9 j).f0 = 7) : (l9.drop 1).all (fun v => v.f0 == 7) = true := by
  rw [List.all_eq_true]
  intro v hv
  rw [List.mem_drop_iff_getElem] at hv
  obtain ⟨i, hi, rfl⟩ := hv
  have := h (1 + i) (by omega) (by omega)
  have e : rd_T38 l9 ((1 + i : Nat) : Int) = l9[1 + i] := by unfold rd_T38; rw [Int.toNat_natCast]; simp [List.getD, show 1 + i < l9.length by omega]
  rw [e] at this
  simpa using this
set_option maxHeartbeats 8000000 in
set_option maxRecDepth 100000 in
theorem heirloomref04_fits.tableShort (k : Nat) (a0 a1 a2 a3 a4 a5 a6 a7 : Int) (A8 : Option Addr) (c8 : Nat) (l8 : List Int) (A9 : Option Addr) (c9 : Nat) (l9 : List S38) (r : Bool) (w : World) (hr8 : Kd.C (Kd.int .i64) w A8 l8.length l8) (hc8 : l8.length ≤ c8) (hr9 : Kd.C k38 w A9 l9.length l9) (hc9 : l9.length ≤ c9) (h5 : a0 = 5) (h : l8.length ≠ 2) (hrf : r = false) :
    Calls Try.prog 43 #[.agg #[.int .i64 a0, .int .i64 a1, .int .i64 a2, .int .i64 a3, .int .i64 a4, .int .i64 a5, .int .i64 a6, .int .i64 a7, .slice A8 l8.length c8, .slice A9 l9.length c9]] w fun e w' => e = .returned (.bool r) ∧ Below w.heap.size w w' := by
  subst h5 hrf
  have hu43 := Try.underlying43
  have hu38 := Try.underlying38
  clear hr8 hr9 hc8 hc9
  have b1 : ((l8.length : Int) == 2) = false := beq_eq_false_iff_ne.mpr (by omega)
  clear h
  go_enter Try.func43, Try.ntmps43
  go_wp2
  simp only [List.append_eq, List.cons_append, List.nil_append]
  go_big_quiet (fail)
  go_wp2
  go_ret
  exact ⟨by first | rfl | (simp; done) | (simp [*]; done), pw_below_drewN (below_alloc (Below.refl _ _) _) _⟩
set_option maxHeartbeats 8000000 in
set_option maxRecDepth 100000 in
theorem heirloomref04_fits.table (k : Nat) (a0 a1 a2 a3 a4 a5 a6 a7 : Int) (A8 : Option Addr) (c8 : Nat) (l8 : List Int) (A9 : Option Addr) (c9 : Nat) (l9 : List S38) (r : Bool) (w : World) (hr8 : Kd.C (Kd.int .i64) w A8 l8.length l8) (hc8 : l8.length ≤ c8) (hr9 : Kd.C k38 w A9 l9.length l9) (hc9 : l9.length ≤ c9) (h5 : a0 = 5) (h2 : l8.length = 2) (h : fitsTable k l8 l9 = some r) :
    Calls Try.prog 43 #[.agg #[.int .i64 a0, .int .i64 a1, .int .i64 a2, .int .i64 a3, .int .i64 a4, .int .i64 a5, .int .i64 a6, .int .i64 a7, .slice A8 l8.length c8, .slice A9 l9.length c9]] w fun e w' => e = .returned (.bool r) ∧ Below w.heap.size w w' := by
  subst h5
  have hu43 := Try.underlying43
  have hu38 := Try.underlying38
  have HR8 := Aside0.mk hr8
  have HR9 := Aside0.mk hr9
  have H := Aside0.mk h
  clear hr8 hr9 hc8 hc9 h
  have b1 : ((l8.length : Int) == 2) = true := beq_iff_eq.mpr (by omega)
  have b2 : decide (0 < (l8.length : Int)) = true := decide_eq_true (by omega)
  have b3 : decide (0 < l8.length) = true := decide_eq_true (by omega)
  have b4 : decide (1 < (l8.length : Int)) = true := decide_eq_true (by omega)
  have b5 : decide (1 < l8.length) = true := decide_eq_true (by omega)
  have b6 : 0 < l8.length := by omega
  have b7 : 1 < l8.length := by omega
  obtain ⟨ad, e8, hx⟩ := Kd.at_int HR8.out 0 (by omega) (by omega)
  cases e8
  obtain ⟨ad', e8, hy⟩ := Kd.at_int HR8.out 1 (by omega) (by omega)
  cases e8
  have HXA : Aside0 (∀ o, (w.alloc o).cell? (ad.add 0) = some (.int .i64 (rd l8 0))) := ⟨fun o => ((below_alloc (Below.refl _ _) o).cell (World.block_lt_of_cell? w _ hx)).trans hx⟩
  have hxa := HXA.out
  have hxb : ∀ o, (w.alloc o).cell? ad = some (.int .i64 (rd l8 0)) := (by cases ad; rfl : ad.add 0 = ad) ▸ hxa
  have HYA : Aside0 (∀ o, (w.alloc o).cell? (ad.add 1) = some (.int .i64 (rd l8 1))) := ⟨fun o => ((below_alloc (Below.refl _ _) o).cell (World.block_lt_of_cell? w _ hy)).trans hy⟩
  have hya := HYA.out
  have hyb := HYA.out
  simp only [show (1 : Int).toNat = 1 from rfl, Nat.reduceMul, Nat.reduceEqDiff, Go.Addr.add, ↓reduceIte] at hyb
  clear hx hy
  have H0 := H.out
  unfold fitsTable at H0
  obtain ⟨x, hxx⟩ : ∃ x, x = rd l8 0 := ⟨_, rfl⟩
  obtain ⟨y, hyy⟩ : ∃ y, y = rd l8 1 := ⟨_, rfl⟩
  rw [← hxx] at hxa hxb HXA H0
  rw [← hyy] at hya hyb HYA H0
  clear hxx hyy H
  by_cases c1 : 0 ≤ x
  · have d1 : decide (0 ≤ x) = true := decide_eq_true c1
    by_cases c2 : x ≤ 4096
    · have d2 : decide (x ≤ 4096) = true := decide_eq_true c2
      by_cases c3 : 0 ≤ y
      · have d3 : decide (0 ≤ y) = true := decide_eq_true c3
        by_cases c4 : y ≤ 4096
        · have d4 : decide (y ≤ 4096) = true := decide_eq_true c4
          rw [if_pos ⟨h2, c1, c2, c3, c4⟩] at H0
          obtain ⟨p, hp, H1⟩ := Option.bind_eq_some_iff.1 H0
          have HP := Aside0.mk hp
          have e := Option.some.inj H1
          clear H0 hp H1
          cases p with
          | false =>
            subst e
            clear c1 c2 c3 c4
            go_enter Try.func43, Try.ntmps43
            go_wp2
            simp only [List.append_eq, List.cons_append, List.nil_append]
            go_big_quiet (first | (go_at_call 54; exact Calls.quiet_of (v := .bool false) ((heirloomref04_power.calls k _ _ _ HP.out).mono (fun e w1 h => ⟨h.1, h.2.out⟩))))
            go_wp2
            go_ret
            exact ⟨by first | rfl | (simp; done) | (simp [*]; done), pw_below_drewN (below_alloc (Below.refl _ _) _) _⟩
          | true =>
            have w1 : wrap64 (1 + x) = 1 + x := by unfold wrap64; omega
            have w2 : wrap64 (2 * y) = 2 * y := by unfold wrap64; omega
            have w3 : wrap64 (1 + x + 2 * y) = 1 + x + 2 * y := by unfold wrap64; omega
            by_cases c5 : (l9.length : Int) = 1 + x + 2 * y
            · have d5 : ((l9.length : Int) == 1 + x + 2 * y) = true := beq_iff_eq.mpr c5
              have d6 : ((l9.length : Int) == wrap64 (wrap64 (1 + x) + wrap64 (2 * y))) = true := by rw [w1, w2, w3]; exact d5
              have f1 : 0 < l9.length := by omega
              have f2 : decide (0 < (l9.length : Int)) = true := decide_eq_true (by omega)
              have f3 : decide (0 < l9.length) = true := decide_eq_true (by omega)
              obtain ⟨ad9, e9, hz0, hz1⟩ := at_T38 HR9.out 0 (by omega) (by omega)
              cases e9
              have hza : ∀ o, (w.alloc o).cell? (ad9.add 0) = some (.int .i64 (rd_T38 l9 0).f0) := fun o => ((below_alloc (Below.refl _ _) o).cell (World.block_lt_of_cell? w _ hz0)).trans hz0
              have hzb : ∀ o, (w.alloc o).cell? ad9 = some (.int .i64 (rd_T38 l9 0).f0) := (by cases ad9; rfl : ad9.add 0 = ad9) ▸ hza
              clear hz0 hz1
              obtain ⟨f, hf⟩ : ∃ f, f = (rd_T38 l9 0).f0 := ⟨_, rfl⟩
              rw [← hf] at hza hzb e
              rw [d5] at e
              clear hf c1 c2 c3 c4 c5
              by_cases c6 : f = 0
              · have g1 : (f == 0) = true := beq_iff_eq.mpr c6
                subst e
                clear c6
                go_enter Try.func43, Try.ntmps43
                go_wp2
                simp only [List.append_eq, List.cons_append, List.nil_append]
                go_big_quiet (first | (go_at_call 54; exact Calls.quiet_of (v := .bool true) ((heirloomref04_power.calls k _ _ _ HP.out).mono (fun e w1 h => ⟨h.1, h.2.out⟩))))
                go_wp2
                go_ret
                exact ⟨by first | rfl | (simp; done) | (simp [*]; done), pw_below_drewN (below_alloc (Below.refl _ _) _) _⟩
              · have g1 : (f == 0) = false := beq_eq_false_iff_ne.mpr c6
                subst e
                clear c6
                go_enter Try.func43, Try.ntmps43
                go_wp2
                simp only [List.append_eq, List.cons_append, List.nil_append]
                go_big_quiet (first | (go_at_call 54; exact Calls.quiet_of (v := .bool true) ((heirloomref04_power.calls k _ _ _ HP.out).mono (fun e w1 h => ⟨h.1, h.2.out⟩))))
                go_wp2
                go_ret
                exact ⟨by first | rfl | (simp; done) | (simp [*]; done), pw_below_drewN (below_alloc (Below.refl _ _) _) _⟩
            · have d5 : ((l9.length : Int) == 1 + x + 2 * y) = false := beq_eq_false_iff_ne.mpr c5
              have d6 : ((l9.length : Int) == wrap64 (wrap64 (1 + x) + wrap64 (2 * y))) = false := by rw [w1, w2, w3]; exact d5
              rw [d5] at e
              subst e
              clear c1 c2 c3 c4 c5
              go_enter Try.func43, Try.ntmps43
              go_wp2
              simp only [List.append_eq, List.cons_append, List.nil_append]
              go_big_quiet (first | (go_at_call 54; exact Calls.quiet_of (v := .bool true) ((heirloomref04_power.calls k _ _ _ HP.out).mono (fun e w1 h => ⟨h.1, h.2.out⟩))))
              go_wp2
              go_ret
              exact ⟨by first | rfl | (simp; done) | (simp [*]; done), pw_below_drewN (below_alloc (Below.refl _ _) _) _⟩
        · have d4 : decide (y ≤ 4096) = false := decide_eq_false c4
          rw [if_neg (by omega)] at H0
          obtain rfl := Option.some.inj H0
          clear c1 c2 c3 c4 H0
          go_enter Try.func43, Try.ntmps43
          go_wp2
          simp only [List.append_eq, List.cons_append, List.nil_append]
          go_big_quiet (fail)
          go_wp2
          go_ret
          exact ⟨by first | rfl | (simp; done) | (simp [*]; done), pw_below_drewN (below_alloc (Below.refl _ _) _) _⟩
      · have d3 : decide (0 ≤ y) = false := decide_eq_false c3
        rw [if_neg (by omega)] at H0
        obtain rfl := Option.some.inj H0
        clear c1 c2 c3 H0
        go_enter Try.func43, Try.ntmps43
        go_wp2
        simp only [List.append_eq, List.cons_append, List.nil_append]
        go_big_quiet (fail)
        go_wp2
        go_ret
        exact ⟨by first | rfl | (simp; done) | (simp [*]; done), pw_below_drewN (below_alloc (Below.refl _ _) _) _⟩
    · have d2 : decide (x ≤ 4096) = false := decide_eq_false c2
      rw [if_neg (by omega)] at H0
      obtain rfl := Option.some.inj H0
      clear c1 c2 H0
      go_enter Try.func43, Try.ntmps43
      go_wp2
      simp only [List.append_eq, List.cons_append, List.nil_append]
      go_big_quiet (fail)
      go_wp2
      go_ret
      exact ⟨by first | rfl | (simp; done) | (simp [*]; done), pw_below_drewN (below_alloc (Below.refl _ _) _) _⟩
  · have d1 : decide (0 ≤ x) = false := decide_eq_false c1
    rw [if_neg (by omega)] at H0
    obtain rfl := Option.some.inj H0
    clear c1 H0
    go_enter Try.func43, Try.ntmps43
    go_wp2
    simp only [List.append_eq, List.cons_append, List.nil_append]
    go_big_quiet (fail)
    go_wp2
    go_ret
    exact ⟨by first | rfl | (simp; done) | (simp [*]; done), pw_below_drewN (below_alloc (Below.refl _ _) _) _⟩
def SameW (a b : World) : Prop := a = b
theorem SameW.refl (a : World) : SameW a a := rfl
theorem SameW.eq {a b : World} (h : SameW a b) : a = b := h
set_option maxHeartbeats 8000000 in
set_option maxRecDepth 100000 in
theorem heirloomref04_fits.func (k : Nat) (a0 a1 a2 a3 a4 a5 a6 a7 : Int) (A8 : Option Addr) (c8 : Nat) (l8 : List Int) (A9 : Option Addr) (c9 : Nat) (l9 : List S38) (r : Bool) (w : World) (hr8 : Kd.C (Kd.int .i64) w A8 l8.length l8) (hc8 : l8.length ≤ c8) (hr9 : Kd.C k38 w A9 l9.length l9) (hc9 : l9.length ≤ c9) (h6 : a0 = 6) (hl : l9.length ≤ 70368744177664) (hrr : r = fitsFunc l8 l9) :
    Calls Try.prog 43 #[.agg #[.int .i64 a0, .int .i64 a1, .int .i64 a2, .int .i64 a3, .int .i64 a4, .int .i64 a5, .int .i64 a6, .int .i64 a7, .slice A8 l8.length c8, .slice A9 l9.length c9]] w fun e w' => e = .returned (.bool r) ∧ Below w.heap.size w w' := by
  subst h6
  have HR9 := Aside0.mk hr9
  have HRR := Aside0.mk hrr
  have HL := Aside0.mk hl
  clear hr8 hr9 hc8 hc9 hrr hl
  go_enter Try.func43, Try.ntmps43
  go_wp2
  go_loopw [6] (fun i wr => ∃ q : Nat, q ≤ l9.length + 1 ∧ 1 ≤ q ∧ i = .int .i64 q ∧ Aside0 (∀ j : Nat, 1 ≤ j → j < q → j < l9.length → (rd_T38 l9 j).f0 = 7) ∧ Aside0 (SameW wr (w.alloc (.cells #[.int .i64 6, .int .i64 a1, .int .i64 a2, .int .i64 a3, .int .i64 a4, .int .i64 a5, .int .i64 a6, .int .i64 a7, .slice A8 l8.length c8, .slice A9 l9.length c9] 43)))) (fun i _ => l9.length + 1 - (intOf i).toNat)
  case atStart => exact ⟨1, by omega, by omega, rfl, ⟨fun j h1 h2 => by omega⟩, ⟨SameW.refl _⟩⟩
  case round =>
    obtain ⟨q, hq, hq1, rfl, HJ, HW⟩ := hrel
    obtain rfl := SameW.eq HW.out
    by_cases hlt : q < l9.length
    · have hlt3 : decide ((q : Int) < (l9.length : Int)) = true := by simp; omega
      have HQ := Aside0.mk hlt
      obtain ⟨ad9, e9, hz0, hz1⟩ := at_T38 HR9.out (q : Int) (by omega) (by omega)
      cases e9
      simp only [Int.toNat_natCast] at hz0 hz1
      have hza : ∀ o, (w.alloc o).cell? (ad9.add (q * 2)) = some (.int .i64 (rd_T38 l9 q).f0) := fun o => ((below_alloc (Below.refl _ _) o).cell (World.block_lt_of_cell? w _ hz0)).trans hz0
      clear hz0 hz1
      have hwp : wrap64 ((q : Int) + 1) = ((q + 1 : Nat) : Int) := by have := HL.out; unfold wrap64; omega
      obtain ⟨f, hf⟩ : ∃ f, f = (rd_T38 l9 q).f0 := ⟨_, rfl⟩
      rw [← hf] at hza
      have HF := Aside0.mk hf
      clear hf
      by_cases c7 : f = 7
      · have g1 : (f != 7) = false := bne_eq_false_iff_eq.mpr c7
        have HG := Aside0.mk c7
        clear c7
        go_wp2
        go_roundw
        case rel => exact ⟨q + 1, by omega, by omega, (by rw [hwp]), ⟨fun j h1 h2 h3 => by rcases Nat.lt_succ_iff_lt_or_eq.1 h2 with h | rfl; exact HJ.out j h1 h h3; exact HF.out.symm.trans HG.out⟩, ⟨SameW.refl _⟩⟩
        case measure => rw [hwp]; exact Nat.sub_lt_sub_left (Nat.lt_succ_of_lt HQ.out) (Nat.lt_succ_self q)
      · have g1 : (f != 7) = true := bne_iff_ne.mpr c7
        have HG := Aside0.mk c7
        clear c7
        go_wp2
        go_ret
        exact ⟨by rw [HRR.out, fitsFunc.bad HQ.out hq1 (by rw [← HF.out]; exact HG.out)]; rfl, below_alloc (Below.refl _ _) _⟩
    · have hlt3 : decide ((q : Int) < (l9.length : Int)) = false := by simp; omega
      have HA : Aside0 ((l9.drop 1).all (fun v => v.f0 == 7) = true) := ⟨fitsFunc.all (fun j h1 h2 => HJ.out j h1 (by omega) h2)⟩
      by_cases c1 : (l8.length : Int) = 0
      · have e1 : ((l8.length : Int) == 0) = true := beq_iff_eq.mpr c1
        by_cases c2 : (l9.length : Int) > 0
        · have e2 : decide ((l9.length : Int) > 0) = true := decide_eq_true c2
          have e3 : decide (0 < (l9.length : Int)) = true := decide_eq_true c2
          have e4 : decide (0 < l9.length) = true := decide_eq_true (by omega)
          have e5 : 0 < l9.length := by omega
          obtain ⟨ad9, e9, hz0, hz1⟩ := at_T38 HR9.out 0 (by omega) (by omega)
          cases e9
          have hza : ∀ o, (w.alloc o).cell? (ad9.add 0) = some (.int .i64 (rd_T38 l9 0).f0) := fun o => ((below_alloc (Below.refl _ _) o).cell (World.block_lt_of_cell? w _ hz0)).trans hz0
          have hzb : ∀ o, (w.alloc o).cell? ad9 = some (.int .i64 (rd_T38 l9 0).f0) := (by cases ad9; rfl : ad9.add 0 = ad9) ▸ hza
          clear hz0 hz1
          have HR' : Aside0 (r = ((rd_T38 l9 0).f0 == 9)) := ⟨by rw [HRR.out]; unfold fitsFunc; rw [HA.out, e1, e2]; rfl⟩
          obtain ⟨f, hf⟩ : ∃ f, f = (rd_T38 l9 0).f0 := ⟨_, rfl⟩
          rw [← hf] at hza hzb HR'
          clear hf c1 c2
          go_wp2
          go_ret
          exact ⟨by rw [HR'.out]; rfl, below_alloc (Below.refl _ _) _⟩
        · have e2 : decide ((l9.length : Int) > 0) = false := decide_eq_false c2
          have e3 : decide (0 < (l9.length : Int)) = false := decide_eq_false c2
          have e4 : decide (0 < l9.length) = false := decide_eq_false (by omega)
          have HR' : Aside0 (r = false) := ⟨by rw [HRR.out]; unfold fitsFunc; rw [HA.out, e1, e2]; rfl⟩
          clear c1 c2
          go_wp2
          go_ret
          exact ⟨by rw [HR'.out]; rfl, below_alloc (Below.refl _ _) _⟩
      · have e1 : ((l8.length : Int) == 0) = false := beq_eq_false_iff_ne.mpr c1
        have HR' : Aside0 (r = false) := ⟨by rw [HRR.out]; unfold fitsFunc; rw [HA.out, e1]; rfl⟩
        clear c1
        go_wp2
        go_ret
        exact ⟨by rw [HR'.out]; rfl, below_alloc (Below.refl _ _) _⟩
theorem heirloomref04_fits.calls (k : Nat) (a0 a1 a2 a3 a4 a5 a6 a7 : Int) (A8 : Option Addr) (c8 : Nat) (l8 : List Int) (A9 : Option Addr) (c9 : Nat) (l9 : List S38) (r : Bool) (w : World) (hr8 : Kd.C (Kd.int .i64) w A8 l8.length l8) (hc8 : l8.length ≤ c8) (hr9 : Kd.C k38 w A9 l9.length l9) (hc9 : l9.length ≤ c9) (h : heirloomref04_fits.f k a0 a1 a2 a3 a4 a5 a6 a7 l8 l9 = some r) :
    Calls Try.prog 43 #[.agg #[.int .i64 a0, .int .i64 a1, .int .i64 a2, .int .i64 a3, .int .i64 a4, .int .i64 a5, .int .i64 a6, .int .i64 a7, .slice A8 l8.length c8, .slice A9 l9.length c9]] w fun e w' => e = .returned (.bool r) ∧ Below w.heap.size w w' := by
  have hm9 : l9.length ≤ 9223372036854775807 := hr9.2.1
  unfold heirloomref04_fits.f at h
  by_cases h4 : a0 = 4
  · rw [if_pos h4] at h
    unfold fitsStr at h
    by_cases hc : (l9.length : Int) = 0 ∧ 0 < (l8.length : Int) ∧ 0 ≤ rd l8 0 ∧ rd l8 0 ≤ 32768
    · rw [if_pos hc] at h
      exact heirloomref04_fits.strOk k a0 a1 a2 a3 a4 a5 a6 a7 A8 c8 l8 A9 c9 l9 r w hr8 hc8 hr9 hc9 h h4 hc.1 (by omega) hc.2.1 (by omega) (by omega) (by omega)
    · rw [if_neg hc] at h
      exact heirloomref04_fits.strNo k a0 a1 a2 a3 a4 a5 a6 a7 A8 c8 l8 A9 c9 l9 r w hr8 hc8 hr9 hc9 h4 hc (Option.some.inj h).symm
  rw [if_neg h4] at h
  by_cases h5 : a0 = 5
  · rw [if_pos h5] at h
    by_cases h2 : l8.length = 2
    · exact heirloomref04_fits.table k a0 a1 a2 a3 a4 a5 a6 a7 A8 c8 l8 A9 c9 l9 r w hr8 hc8 hr9 hc9 h5 h2 h
    · unfold fitsTable at h
      rw [if_neg (fun hh => h2 hh.1)] at h
      exact heirloomref04_fits.tableShort k a0 a1 a2 a3 a4 a5 a6 a7 A8 c8 l8 A9 c9 l9 r w hr8 hc8 hr9 hc9 h5 h2 (Option.some.inj h).symm
  rw [if_neg h5] at h
  by_cases h6 : a0 = 6
  · rw [if_pos h6] at h
    by_cases hl : l9.length ≤ 70368744177664
    · rw [if_pos hl] at h
      exact heirloomref04_fits.func k a0 a1 a2 a3 a4 a5 a6 a7 A8 c8 l8 A9 c9 l9 r w hr8 hc8 hr9 hc9 h6 hl (Option.some.inj h).symm
    · rw [if_neg hl] at h
      cases h
  rw [if_neg h6] at h
  refine heirloomref04_fits.small k a0 a1 a2 a3 a4 a5 a6 a7 A8 c8 l8 A9 c9 l9 r w hr8 hc8 hr9 hc9 h4 h5 h6 ?_
  by_cases h7 : a0 = 7
  · rw [if_pos h7] at h ⊢
    exact (Option.some.inj h).symm
  rw [if_neg h7] at h ⊢
  by_cases h8 : a0 = 8
  · rw [if_pos h8] at h ⊢
    exact (Option.some.inj h).symm
  rw [if_neg h8] at h ⊢
  exact (Option.some.inj h).symm

end Go.Proofs.Ytepoalgoombpeaa.Print
