/- PROVED: each Lean function of this text answers as the Go function of its name does. Conditions: none beyond what each theorem states. (Written by the session's own program xprint.py.) -/
import Derived.Test.YtepoalgoombpeaaPrintx0
import Derived.Test.YtepoalgoombpeaaPrintx23
import Derived.Test.YtepoalgoombpeaaPrintx30
namespace Go.Proofs.Ytepoalgoombpeaa.Print
open Go.RowKit Go.Proofs.YtepoalgoombpeaaW.PrintWords Go.Proofs.YtepoalgoombpeaaW.PrintLast Go.Proofs.YtepoalgoombpeaaW.PrintMore
attribute [local go_sem] max2_int min2_int max_two min_two max_three min_three max_four min_four   -- for this text's walks alone
set_option linter.unusedVariables false
set_option linter.unusedSimpArgs false

/-! ### heirloomref04_Layout: function 33 -/
def heirloomref04_Layout.l0 : Nat → Int → Int → Int → Int → Int → Int → Int → Int → Int → List Int → List (S38) → Option (Int)
 | 0, _, _, _, _, _, _, _, _, _, _, _ => none
 | k + 1, x5, x358000, x358001, x358002, x358003, x358004, x358005, x358006, x358007, x358008, x358009 => if x5 < (x358009.length : Int) then (if 0 ≤ x5 then (if ((rd_T38 x358009 x5).f0) = 11 then (if x358000 = 5 then (if 0 < (x358008.length : Int) then (if (wrap64 ((wrap64 (x5 - 1)) - (rd x358008 0))) < 0 then (some 6) else (if (Int.tmod (wrap64 ((wrap64 (x5 - 1)) - (rd x358008 0))) 2) = 0 then (heirloomref04_Layout.l0 k (wrap64 (x5 + 1)) x358000 x358001 x358002 x358003 x358004 x358005 x358006 x358007 x358008 x358009) else (some 6))) else (none)) else (some 6)) else (heirloomref04_Layout.l0 k (wrap64 (x5 + 1)) x358000 x358001 x358002 x358003 x358004 x358005 x358006 x358007 x358008 x358009)) else (none)) else (some 0)
def heirloomref04_Layout.f (k : Nat) (a0_0 : Int) (a0_1 : Int) (a0_2 : Int) (a0_3 : Int) (a0_4 : Int) (a0_5 : Int) (a0_6 : Int) (a0_7 : Int) (l0_8 : List Int) (l0_9 : List (S38)) : Option (Int) := (heirloomref04_Cells.f k a0_0 a0_1 a0_2 a0_3 a0_4 a0_5 a0_6 a0_7 l0_8 l0_9).bind fun bt358 => (if bt358.2 = 0 then ((heirloomref04_fits.f k a0_0 a0_1 a0_2 a0_3 a0_4 a0_5 a0_6 a0_7 l0_8 l0_9).bind fun t362 => (if t362 = true then (heirloomref04_Layout.l0 k 0 a0_0 a0_1 a0_2 a0_3 a0_4 a0_5 a0_6 a0_7 l0_8 l0_9) else (some 6))) else (some bt358.2))
theorem heirloomref04_Layout.mono_l : ∀ k, (∀ y0 y1 y2 y3 y4 y5 y6 y7 y8 y9 y10, LeO (heirloomref04_Layout.l0 k y0 y1 y2 y3 y4 y5 y6 y7 y8 y9 y10) (heirloomref04_Layout.l0 (k + 1) y0 y1 y2 y3 y4 y5 y6 y7 y8 y9 y10))
 | 0 => fun _ _ _ _ _ _ _ _ _ _ _ r h => by simp [heirloomref04_Layout.l0] at h
 | k + 1 => by
  have ih0 := heirloomref04_Layout.mono_l k
  ·intro y0 y1 y2 y3 y4 y5 y6 y7 y8 y9 y10
   unfold heirloomref04_Layout.l0
   repeat' first
   | (with_reducible exact ih0 _ _ _ _ _ _ _ _ _ _ _)
   | (with_reducible exact heirloomref04_Cells.mono _ _ _ _ _ _ _ _ _ _ _)
   | (with_reducible exact heirloomref04_fits.mono _ _ _ _ _ _ _ _ _ _ _)
   | (with_reducible exact LeO.refl _)
   | (with_reducible exact LeO.none _)
   | (with_reducible refine LeO.ite ?_ ?_)
   | (with_reducible refine LeO.bind ?_ (fun _ => ?_))
   | exact ih0 _ _ _ _ _ _ _ _ _ _ _
   | exact heirloomref04_Cells.mono _ _ _ _ _ _ _ _ _ _ _
   | exact heirloomref04_fits.mono _ _ _ _ _ _ _ _ _ _ _
   | exact LeO.none _
   | refine LeO.ite ?_ ?_
   | refine LeO.bind ?_ (fun _ => ?_)
theorem heirloomref04_Layout.mono : ∀ a0 a1 a2 a3 a4 a5 a6 a7 a8 a9 k, LeO (heirloomref04_Layout.f k a0 a1 a2 a3 a4 a5 a6 a7 a8 a9) (heirloomref04_Layout.f (k + 1) a0 a1 a2 a3 a4 a5 a6 a7 a8 a9) := by
 intro a0 a1 a2 a3 a4 a5 a6 a7 a8 a9 k
 have ih0 := heirloomref04_Layout.mono_l k
 unfold heirloomref04_Layout.f
 repeat' first
   | (with_reducible exact ih0 _ _ _ _ _ _ _ _ _ _ _)
   | (with_reducible exact heirloomref04_Cells.mono _ _ _ _ _ _ _ _ _ _ _)
   | (with_reducible exact heirloomref04_fits.mono _ _ _ _ _ _ _ _ _ _ _)
   | (with_reducible exact LeO.refl _)
   | (with_reducible exact LeO.none _)
   | (with_reducible refine LeO.ite ?_ ?_)
   | (with_reducible refine LeO.bind ?_ (fun _ => ?_))
   | exact ih0 _ _ _ _ _ _ _ _ _ _ _
   | exact heirloomref04_Cells.mono _ _ _ _ _ _ _ _ _ _ _
   | exact heirloomref04_fits.mono _ _ _ _ _ _ _ _ _ _ _
   | exact LeO.none _
   | refine LeO.ite ?_ ?_
   | refine LeO.bind ?_ (fun _ => ?_)
set_option maxHeartbeats 8000000 in
set_option maxRecDepth 100000 in
theorem heirloomref04_Layout.calls (k : Nat) (a0_0 : Int) (a0_1 : Int) (a0_2 : Int) (a0_3 : Int) (a0_4 : Int) (a0_5 : Int) (a0_6 : Int) (a0_7 : Int) (A0_8 : Option Addr) (c0_8 : Nat) (l0_8 : List Int) (A0_9 : Option Addr) (c0_9 : Nat) (l0_9 : List (S38)) (r : Int) (w : World) (hr0_8 : Kd.C (Kd.int .i64) w A0_8 l0_8.length l0_8) (hc0_8 : l0_8.length ≤ c0_8) (hr0_9 : Kd.C k38 w A0_9 l0_9.length l0_9) (hc0_9 : l0_9.length ≤ c0_9) (h : heirloomref04_Layout.f k a0_0 a0_1 a0_2 a0_3 a0_4 a0_5 a0_6 a0_7 l0_8 l0_9 = some r) :
  Calls Try.prog 33 #[.agg #[.int .i64 a0_0, .int .i64 a0_1, .int .i64 a0_2, .int .i64 a0_3, .int .i64 a0_4, .int .i64 a0_5, .int .i64 a0_6, .int .i64 a0_7, .slice A0_8 l0_8.length c0_8, .slice A0_9 l0_9.length c0_9]] w fun e w' => e = .returned (.int .i64 r) ∧ Below w.heap.size w w' := by
 have hu43 := Try.underlying43
 have HR0_8 := Aside0.mk hr0_8
 have HC0_8 := Aside0.mk hc0_8
 clear hr0_8 hc0_8
 have HR0_9 := Aside0.mk hr0_9
 have HC0_9 := Aside0.mk hc0_9
 clear hr0_9 hc0_9
 have HB := Aside0.mk (Below.refl w.heap.size w)
 have H : ((heirloomref04_Cells.f k a0_0 a0_1 a0_2 a0_3 a0_4 a0_5 a0_6 a0_7 l0_8 l0_9).bind fun bt358 => (if bt358.2 = 0 then ((heirloomref04_fits.f k a0_0 a0_1 a0_2 a0_3 a0_4 a0_5 a0_6 a0_7 l0_8 l0_9).bind fun t362 => (if t362 = true then (heirloomref04_Layout.l0 k 0 a0_0 a0_1 a0_2 a0_3 a0_4 a0_5 a0_6 a0_7 l0_8 l0_9) else (some 6))) else (some bt358.2))) = some r := h
 clear h
 replace H := Option.bind_eq_some_iff.mp H
 obtain ⟨⟨t358, t361⟩, A20, H⟩ := H
 replace H : (if t361 = 0 then ((heirloomref04_fits.f k a0_0 a0_1 a0_2 a0_3 a0_4 a0_5 a0_6 a0_7 l0_8 l0_9).bind fun t362 => (if t362 = true then (heirloomref04_Layout.l0 k 0 a0_0 a0_1 a0_2 a0_3 a0_4 a0_5 a0_6 a0_7 l0_8 l0_9) else (some 6))) else (some t361)) = some r := H
 have A2 := Aside0.mk A20
 clear A20
 by_cases c3 : t361 = 0
 ·rw [if_pos c3] at H
  have c3b0 : (t361 == 0) = true := beq_iff_eq.mpr c3
  have c3b1 : (t361 != 0) = false := bne_eq_false_iff_eq.mpr c3
  clear c3
  replace H := Option.bind_eq_some_iff.mp H
  obtain ⟨t362, A40, H⟩ := H
  replace H : (if t362 = true then (heirloomref04_Layout.l0 k 0 a0_0 a0_1 a0_2 a0_3 a0_4 a0_5 a0_6 a0_7 l0_8 l0_9) else (some 6)) = some r := H
  have A4 := Aside0.mk A40
  clear A40
  by_cases c5 : t362 = true
  ·subst c5
   have H1 : (heirloomref04_Layout.l0 k 0 a0_0 a0_1 a0_2 a0_3 a0_4 a0_5 a0_6 a0_7 l0_8 l0_9) = some r := by rw [if_pos rfl] at H; exact H
   clear H
   have H := H1
   clear H1
   have H' := Aside0.mk H
   clear H
   go_enter Try.func33, Try.ntmps33
   go_wp2_with (first | ((with_reducible refine gate_dst (N := 1) rfl ?_); refine box_event ?hg (N := 1) ?hd (cs := #[.int .i64 a0_0, .int .i64 a0_1, .int .i64 a0_2, .int .i64 a0_3, .int .i64 a0_4, .int .i64 a0_5, .int .i64 a0_6, .int .i64 a0_7, .slice A0_8 l0_8.length c0_8, .slice A0_9 l0_9.length c0_9]) (t := 43) ?hr ?_; (case hd => rfl); (case hg => rfl); (case hr => first | (go_simp; done) | (go_simp; rfl)); intro gb357 hg w6 hbox hb; have n0_ := Aside0.mk (below_step (by repeat (first | (with_reducible first | exact HB.out | apply below_alloc | apply pw_below_drewN | apply below_drew1) | exact HB.out)) hb); have n1_ := Aside0.mk (hbox); have n2_ := Aside0.mk ((by rw [hg]; exact (below_size (by repeat (first | (with_reducible first | exact HB.out | apply below_alloc | apply pw_below_drewN | apply below_drew1) | exact HB.out))) : w.heap.size ≤ gb357)); have n3_ := Aside0.mk ((by rw [hg]; exact (below_size (by repeat (first | (with_reducible first | exact HB.out | apply below_alloc | apply pw_below_drewN | apply below_drew1) | exact HB.out))) : w.heap.size ≤ gb357)); clear HB; have HB := n0_; have BK357 := n1_; have GW357 := n2_; have GE357 := n3_; clear n0_ n1_ n2_ n3_; clear hb hbox hg; have hcz7_0 : w6.cell? ⟨gb357, 0, none⟩ = some (.int .i64 a0_0) := (blk_cell BK357.out 0).trans rfl; have hcz7_1 : w6.cell? ⟨gb357, 1, none⟩ = some (.int .i64 a0_1) := (blk_cell BK357.out 1).trans rfl; have hcz7_2 : w6.cell? ⟨gb357, 2, none⟩ = some (.int .i64 a0_2) := (blk_cell BK357.out 2).trans rfl; have hcz7_3 : w6.cell? ⟨gb357, 3, none⟩ = some (.int .i64 a0_3) := (blk_cell BK357.out 3).trans rfl; have hcz7_4 : w6.cell? ⟨gb357, 4, none⟩ = some (.int .i64 a0_4) := (blk_cell BK357.out 4).trans rfl; have hcz7_5 : w6.cell? ⟨gb357, 5, none⟩ = some (.int .i64 a0_5) := (blk_cell BK357.out 5).trans rfl; have hcz7_6 : w6.cell? ⟨gb357, 6, none⟩ = some (.int .i64 a0_6) := (blk_cell BK357.out 6).trans rfl; have hcz7_7 : w6.cell? ⟨gb357, 7, none⟩ = some (.int .i64 a0_7) := (blk_cell BK357.out 7).trans rfl; have hcz7_8 : w6.cell? ⟨gb357, 8, none⟩ = some (.slice A0_8 l0_8.length c0_8) := (blk_cell BK357.out 8).trans rfl; have hcz7_9 : w6.cell? ⟨gb357, 9, none⟩ = some (.slice A0_9 l0_9.length c0_9) := (blk_cell BK357.out 9).trans rfl; have hfz7_0 := blk_frozen BK357.out 0; have hfz7_1 := blk_frozen BK357.out 1; have hfz7_2 := blk_frozen BK357.out 2; have hfz7_3 := blk_frozen BK357.out 3; have hfz7_4 := blk_frozen BK357.out 4; have hfz7_5 := blk_frozen BK357.out 5; have hfz7_6 := blk_frozen BK357.out 6; have hfz7_7 := blk_frozen BK357.out 7; have hfz7_8 := blk_frozen BK357.out 8; have hfz7_9 := blk_frozen BK357.out 9) | ((with_reducible refine gate_callee (f := 27) rfl ?_); refine goesL_ (some 9) rfl rfl Try.func27 (by kernel_rfl) rfl #[.agg #[.int .i64 a0_0, .int .i64 a0_1, .int .i64 a0_2, .int .i64 a0_3, .int .i64 a0_4, .int .i64 a0_5, .int .i64 a0_6, .int .i64 a0_7, .slice A0_8 l0_8.length c0_8, .slice A0_9 l0_9.length c0_9]] rfl (by (try simp only [List.map_toArray, List.map_cons, List.map_nil]); first | done | rfl | (simp only [List.length_drop, List.length_take]; rfl)) ?_; (with_reducible refine (heirloomref04_Cells.calls k a0_0 a0_1 a0_2 a0_3 a0_4 a0_5 a0_6 a0_7 _ _ l0_8 _ _ l0_9 t358 t361 _ ?side1 ?side2 ?side3 ?side4 A2.out).mono ?_); (case side1 => repeat (first | exact (Kd.C_below HR0_8.out HB.out) | (with_reducible refine Kd.C_alloc ?_ _) | (with_reducible refine Kd.C_drewN ?_ _) | (with_reducible refine Kd.C_drew ?_))); (case side2 => exact HC0_8.out); (case side3 => repeat (first | exact (Kd.C_below HR0_9.out HB.out) | (with_reducible refine Kd.C_alloc ?_ _) | (with_reducible refine Kd.C_drewN ?_ _) | (with_reducible refine Kd.C_drew ?_))); (case side4 => exact HC0_9.out); rintro e w8 ⟨v359, rfl, ho0, hb⟩; refine ⟨_, rfl, ?_⟩; have n0_ := Aside0.mk (Kd.R_lower ho0 (below_size (by repeat (first | (with_reducible first | exact HB.out | apply below_alloc | apply pw_below_drewN | apply below_drew1 | refine below_set ?_ GE357.out) | exact HB.out)))); have n1_ := Aside0.mk (blk_below (g := gb357) (o := .cells #[.int .i64 a0_0, .int .i64 a0_1, .int .i64 a0_2, .int .i64 a0_3, .int .i64 a0_4, .int .i64 a0_5, .int .i64 a0_6, .int .i64 a0_7, .slice A0_8 l0_8.length c0_8, .slice A0_9 l0_9.length c0_9] 43 (0, 0)) (by (with_reducible repeat (first | refine blk_drewN ?_ _ | refine blk_drew ?_ | refine blk_alloc ?_ _)); exact BK357.out) hb); have n2_ := Aside0.mk (below_step (by repeat (first | (with_reducible first | exact HB.out | apply below_alloc | apply pw_below_drewN | apply below_drew1 | refine below_set ?_ GE357.out) | exact HB.out)) hb); clear BK357; clear HB; have HO360 := n0_; have BK357 := n1_; have HB := n2_; clear n0_ n1_ n2_; (try clear hb); (try clear hb2); (try clear hk); (try clear hi); (try clear ho0); have hcz9_0 : w8.cell? ⟨gb357, 0, none⟩ = some (.int .i64 a0_0) := (blk_cell BK357.out 0).trans rfl; have hcz9_1 : w8.cell? ⟨gb357, 1, none⟩ = some (.int .i64 a0_1) := (blk_cell BK357.out 1).trans rfl; have hcz9_2 : w8.cell? ⟨gb357, 2, none⟩ = some (.int .i64 a0_2) := (blk_cell BK357.out 2).trans rfl; have hcz9_3 : w8.cell? ⟨gb357, 3, none⟩ = some (.int .i64 a0_3) := (blk_cell BK357.out 3).trans rfl; have hcz9_4 : w8.cell? ⟨gb357, 4, none⟩ = some (.int .i64 a0_4) := (blk_cell BK357.out 4).trans rfl; have hcz9_5 : w8.cell? ⟨gb357, 5, none⟩ = some (.int .i64 a0_5) := (blk_cell BK357.out 5).trans rfl; have hcz9_6 : w8.cell? ⟨gb357, 6, none⟩ = some (.int .i64 a0_6) := (blk_cell BK357.out 6).trans rfl; have hcz9_7 : w8.cell? ⟨gb357, 7, none⟩ = some (.int .i64 a0_7) := (blk_cell BK357.out 7).trans rfl; have hcz9_8 : w8.cell? ⟨gb357, 8, none⟩ = some (.slice A0_8 l0_8.length c0_8) := (blk_cell BK357.out 8).trans rfl; have hcz9_9 : w8.cell? ⟨gb357, 9, none⟩ = some (.slice A0_9 l0_9.length c0_9) := (blk_cell BK357.out 9).trans rfl; have hfz9_0 := blk_frozen BK357.out 0; have hfz9_1 := blk_frozen BK357.out 1; have hfz9_2 := blk_frozen BK357.out 2; have hfz9_3 := blk_frozen BK357.out 3; have hfz9_4 := blk_frozen BK357.out 4; have hfz9_5 := blk_frozen BK357.out 5; have hfz9_6 := blk_frozen BK357.out 6; have hfz9_7 := blk_frozen BK357.out 7; have hfz9_8 := blk_frozen BK357.out 8; have hfz9_9 := blk_frozen BK357.out 9) | ((with_reducible refine gate_callee (f := 43) rfl ?_); refine goesL_ (some 16) rfl rfl Try.func43 (by kernel_rfl) rfl #[.agg #[.int .i64 a0_0, .int .i64 a0_1, .int .i64 a0_2, .int .i64 a0_3, .int .i64 a0_4, .int .i64 a0_5, .int .i64 a0_6, .int .i64 a0_7, .slice A0_8 l0_8.length c0_8, .slice A0_9 l0_9.length c0_9]] rfl (by (try simp only [List.map_toArray, List.map_cons, List.map_nil]); first | done | rfl | (simp only [List.length_drop, List.length_take]; rfl)) ?_; (with_reducible refine (heirloomref04_fits.calls k a0_0 a0_1 a0_2 a0_3 a0_4 a0_5 a0_6 a0_7 _ _ l0_8 _ _ l0_9 true _ ?side1 ?side2 ?side3 ?side4 A4.out).mono ?_); (case side1 => repeat (first | exact (Kd.C_below HR0_8.out HB.out) | (with_reducible refine Kd.C_alloc ?_ _) | (with_reducible refine Kd.C_drewN ?_ _) | (with_reducible refine Kd.C_drew ?_))); (case side2 => exact HC0_8.out); (case side3 => repeat (first | exact (Kd.C_below HR0_9.out HB.out) | (with_reducible refine Kd.C_alloc ?_ _) | (with_reducible refine Kd.C_drewN ?_ _) | (with_reducible refine Kd.C_drew ?_))); (case side4 => exact HC0_9.out); rintro e w10 ⟨rfl, hb⟩; refine ⟨_, rfl, ?_⟩; have n0_ := Aside0.mk (Kd.R_below (by (with_reducible repeat (first | apply Kd.R_alloc | apply Kd.R_drewN | apply Kd.R_drew)); exact HO360.out) hb); have n1_ := Aside0.mk (blk_below (g := gb357) (o := .cells #[.int .i64 a0_0, .int .i64 a0_1, .int .i64 a0_2, .int .i64 a0_3, .int .i64 a0_4, .int .i64 a0_5, .int .i64 a0_6, .int .i64 a0_7, .slice A0_8 l0_8.length c0_8, .slice A0_9 l0_9.length c0_9] 43 (0, 0)) (by (with_reducible repeat (first | refine blk_drewN ?_ _ | refine blk_drew ?_ | refine blk_alloc ?_ _)); exact BK357.out) hb); have n2_ := Aside0.mk (below_step (by repeat (first | (with_reducible first | exact HB.out | apply below_alloc | apply pw_below_drewN | apply below_drew1 | refine below_set ?_ GE357.out) | exact HB.out)) hb); clear HO360; clear BK357; clear HB; have HO360 := n0_; have BK357 := n1_; have HB := n2_; clear n0_ n1_ n2_; (try clear hb); (try clear hb2); (try clear hk); (try clear hi)))
   go_loopg [5] k (fun kq v5 w' => ∃ (x5_1 : Int), v5 = .int .i64 x5_1 ∧ Aside0 (heirloomref04_Layout.l0 kq x5_1 a0_0 a0_1 a0_2 a0_3 a0_4 a0_5 a0_6 a0_7 l0_8 l0_9 = some r) ∧ Aside0 (kq ≤ k) ∧ Aside0 (w'.heap[gb357]? = some (.cells #[.int .i64 a0_0, .int .i64 a0_1, .int .i64 a0_2, .int .i64 a0_3, .int .i64 a0_4, .int .i64 a0_5, .int .i64 a0_6, .int .i64 a0_7, (.slice A0_8 l0_8.length c0_8), (.slice A0_9 l0_9.length c0_9)] 43 (0, 0))) ∧ Aside0 (Below w.heap.size w w'))
   case atStart => exact ⟨(0), (by first | rfl | (simp; done) | (simp [*]; done)), H', ⟨Nat.le_refl _⟩, ⟨by (with_reducible repeat (first | refine blk_drewN ?_ _ | refine blk_drew ?_ | refine blk_alloc ?_ _)); exact BK357.out⟩, ⟨by repeat (first | (with_reducible first | exact HB.out | apply below_alloc | apply pw_below_drewN | apply below_drew1 | refine below_set ?_ GE357.out) | exact HB.out)⟩⟩
   case round =>
    clear H'
    try clear c2
    try clear p2
    try clear c3
    try clear c3b0
    try clear c3b1
    try clear c4
    try clear c5
    try clear hcz7_0
    try clear hcz7_1
    try clear hcz7_2
    try clear hcz7_3
    try clear hcz7_4
    try clear hcz7_5
    try clear hcz7_6
    try clear hcz7_7
    try clear hcz7_8
    try clear hcz7_9
    try clear hcz9_0
    try clear hcz9_1
    try clear hcz9_2
    try clear hcz9_3
    try clear hcz9_4
    try clear hcz9_5
    try clear hcz9_6
    try clear hcz9_7
    try clear hcz9_8
    try clear hcz9_9
    try clear hfz7_0
    try clear hfz7_1
    try clear hfz7_2
    try clear hfz7_3
    try clear hfz7_4
    try clear hfz7_5
    try clear hfz7_6
    try clear hfz7_7
    try clear hfz7_8
    try clear hfz7_9
    try clear hfz9_0
    try clear hfz9_1
    try clear hfz9_2
    try clear hfz9_3
    try clear hfz9_4
    try clear hfz9_5
    try clear hfz9_6
    try clear hfz9_7
    try clear hfz9_8
    try clear hfz9_9
    obtain ⟨x5_1, rfl, HA, HK1, BK357, HB⟩ := hrel
    cases gk with
    | zero => exact absurd HA.out (by simp [heirloomref04_Layout.l0])
    | succ k1 =>
     have H := HA.out
     clear HA
     simp only [heirloomref04_Layout.l0] at H
     by_cases c11 : x5_1 < (l0_9.length : Int)
     ·rw [if_pos c11] at H
      have c11b0 : decide (x5_1 < (l0_9.length : Int)) = true := decide_eq_true c11
      clear c11
      by_cases c12 : 0 ≤ x5_1
      ·rw [if_pos c12] at H
       have c12b0 : decide (0 ≤ x5_1) = true := decide_eq_true c12
       clear c12
       by_cases c13 : ((rd_T38 l0_9 x5_1).f0) = 11
       ·rw [if_pos c13] at H
        have c13b0 : (((rd_T38 l0_9 x5_1).f0) == 11) = true := beq_iff_eq.mpr c13
        have c13b1 : (((rd_T38 l0_9 x5_1).f0) != 11) = false := bne_eq_false_iff_eq.mpr c13
        clear c13
        by_cases c14 : a0_0 = 5
        ·rw [if_pos c14] at H
         have c14b0 : (a0_0 == 5) = true := beq_iff_eq.mpr c14
         have c14b1 : (a0_0 != 5) = false := bne_eq_false_iff_eq.mpr c14
         clear c14
         by_cases c15 : 0 < (l0_8.length : Int)
         ·rw [if_pos c15] at H
          have c15b0 : decide (0 < (l0_8.length : Int)) = true := decide_eq_true c15
          have c15b1 : decide (0 < l0_8.length) = true := decide_eq_true (by omega)
          clear c15
          by_cases c16 : (wrap64 ((wrap64 (x5_1 - 1)) - (rd l0_8 0))) < 0
          ·rw [if_pos c16] at H
           have c16b0 : decide ((wrap64 ((wrap64 (x5_1 - 1)) - (rd l0_8 0))) < 0) = true := decide_eq_true c16
           clear c16
           obtain rfl := Option.some.inj H
           have hcz17_0 : wr.cell? ⟨gb357, 0, none⟩ = some (.int .i64 a0_0) := (blk_cell BK357.out 0).trans rfl
           have hcz17_1 : wr.cell? ⟨gb357, 1, none⟩ = some (.int .i64 a0_1) := (blk_cell BK357.out 1).trans rfl
           have hcz17_2 : wr.cell? ⟨gb357, 2, none⟩ = some (.int .i64 a0_2) := (blk_cell BK357.out 2).trans rfl
           have hcz17_3 : wr.cell? ⟨gb357, 3, none⟩ = some (.int .i64 a0_3) := (blk_cell BK357.out 3).trans rfl
           have hcz17_4 : wr.cell? ⟨gb357, 4, none⟩ = some (.int .i64 a0_4) := (blk_cell BK357.out 4).trans rfl
           have hcz17_5 : wr.cell? ⟨gb357, 5, none⟩ = some (.int .i64 a0_5) := (blk_cell BK357.out 5).trans rfl
           have hcz17_6 : wr.cell? ⟨gb357, 6, none⟩ = some (.int .i64 a0_6) := (blk_cell BK357.out 6).trans rfl
           have hcz17_7 : wr.cell? ⟨gb357, 7, none⟩ = some (.int .i64 a0_7) := (blk_cell BK357.out 7).trans rfl
           have hcz17_8 : wr.cell? ⟨gb357, 8, none⟩ = some (.slice A0_8 l0_8.length c0_8) := (blk_cell BK357.out 8).trans rfl
           have hcz17_9 : wr.cell? ⟨gb357, 9, none⟩ = some (.slice A0_9 l0_9.length c0_9) := (blk_cell BK357.out 9).trans rfl
           have hfz17_0 := blk_frozen BK357.out 0
           have hfz17_1 := blk_frozen BK357.out 1
           have hfz17_2 := blk_frozen BK357.out 2
           have hfz17_3 := blk_frozen BK357.out 3
           have hfz17_4 := blk_frozen BK357.out 4
           have hfz17_5 := blk_frozen BK357.out 5
           have hfz17_6 := blk_frozen BK357.out 6
           have hfz17_7 := blk_frozen BK357.out 7
           have hfz17_8 := blk_frozen BK357.out 8
           have hfz17_9 := blk_frozen BK357.out 9
           have p363 : 0 ≤ (x5_1 : Int) := of_decide_eq_true (by first | (with_reducible assumption) | assumption)
           have q363 : x5_1 < (l0_9.length : Int) := of_decide_eq_true (by first | (with_reducible assumption) | assumption)
           obtain ⟨ad363, e363, hx363_0, hx363_1⟩ := at_T38 HR0_9.out x5_1 p363 q363
           cases e363
           replace hx363_0 := (HB.out.cell (World.block_lt_of_cell? w _ hx363_0)).trans hx363_0
           replace hx363_1 := (HB.out.cell (World.block_lt_of_cell? w _ hx363_1)).trans hx363_1
           replace p363 := eq_true p363
           replace q363 := eq_true q363
           have p364 : 0 ≤ (0 : Int) := (by omega)
           have q364 : 0 < (l0_8.length : Int) := of_decide_eq_true (by first | (with_reducible assumption) | assumption)
           obtain ⟨ad364, e364, hx364_0⟩ := Kd.at_int HR0_8.out 0 p364 q364
           cases e364
           have qi364 : (0 < l0_8.length) = True := eq_true (by omega)
           (try rw [show ((0 : Int)).toNat = 0 from rfl] at hx364_0)
           (try rw [Addr.add_zero'] at hx364_0)
           replace hx364_0 := (HB.out.cell (World.block_lt_of_cell? w _ hx364_0)).trans hx364_0
           replace p364 := eq_true p364
           replace q364 := eq_true q364
           go_wp2
           go_ret
           exact ⟨by first | rfl | (simp [errW_none, errW_some] <;> rfl) | (simp [*, errW_none, errW_some] <;> rfl), by repeat (first | (with_reducible first | exact HB.out | apply below_alloc | apply pw_below_drewN | apply below_drew1 | refine below_set ?_ GE357.out) | exact HB.out)⟩
          ·rw [if_neg c16] at H
           have c16b0 : decide ((wrap64 ((wrap64 (x5_1 - 1)) - (rd l0_8 0))) < 0) = false := decide_eq_false c16
           clear c16
           by_cases c18 : (Int.tmod (wrap64 ((wrap64 (x5_1 - 1)) - (rd l0_8 0))) 2) = 0
           ·rw [if_pos c18] at H
            have c18b0 : ((Int.tmod (wrap64 ((wrap64 (x5_1 - 1)) - (rd l0_8 0))) 2) == 0) = true := beq_iff_eq.mpr c18
            have c18b1 : ((Int.tmod (wrap64 ((wrap64 (x5_1 - 1)) - (rd l0_8 0))) 2) != 0) = false := bne_eq_false_iff_eq.mpr c18
            clear c18
            have H' := Aside0.mk H
            clear H
            have hcz19_0 : wr.cell? ⟨gb357, 0, none⟩ = some (.int .i64 a0_0) := (blk_cell BK357.out 0).trans rfl
            have hcz19_1 : wr.cell? ⟨gb357, 1, none⟩ = some (.int .i64 a0_1) := (blk_cell BK357.out 1).trans rfl
            have hcz19_2 : wr.cell? ⟨gb357, 2, none⟩ = some (.int .i64 a0_2) := (blk_cell BK357.out 2).trans rfl
            have hcz19_3 : wr.cell? ⟨gb357, 3, none⟩ = some (.int .i64 a0_3) := (blk_cell BK357.out 3).trans rfl
            have hcz19_4 : wr.cell? ⟨gb357, 4, none⟩ = some (.int .i64 a0_4) := (blk_cell BK357.out 4).trans rfl
            have hcz19_5 : wr.cell? ⟨gb357, 5, none⟩ = some (.int .i64 a0_5) := (blk_cell BK357.out 5).trans rfl
            have hcz19_6 : wr.cell? ⟨gb357, 6, none⟩ = some (.int .i64 a0_6) := (blk_cell BK357.out 6).trans rfl
            have hcz19_7 : wr.cell? ⟨gb357, 7, none⟩ = some (.int .i64 a0_7) := (blk_cell BK357.out 7).trans rfl
            have hcz19_8 : wr.cell? ⟨gb357, 8, none⟩ = some (.slice A0_8 l0_8.length c0_8) := (blk_cell BK357.out 8).trans rfl
            have hcz19_9 : wr.cell? ⟨gb357, 9, none⟩ = some (.slice A0_9 l0_9.length c0_9) := (blk_cell BK357.out 9).trans rfl
            have hfz19_0 := blk_frozen BK357.out 0
            have hfz19_1 := blk_frozen BK357.out 1
            have hfz19_2 := blk_frozen BK357.out 2
            have hfz19_3 := blk_frozen BK357.out 3
            have hfz19_4 := blk_frozen BK357.out 4
            have hfz19_5 := blk_frozen BK357.out 5
            have hfz19_6 := blk_frozen BK357.out 6
            have hfz19_7 := blk_frozen BK357.out 7
            have hfz19_8 := blk_frozen BK357.out 8
            have hfz19_9 := blk_frozen BK357.out 9
            have p363 : 0 ≤ (x5_1 : Int) := of_decide_eq_true (by first | (with_reducible assumption) | assumption)
            have q363 : x5_1 < (l0_9.length : Int) := of_decide_eq_true (by first | (with_reducible assumption) | assumption)
            obtain ⟨ad363, e363, hx363_0, hx363_1⟩ := at_T38 HR0_9.out x5_1 p363 q363
            cases e363
            replace hx363_0 := (HB.out.cell (World.block_lt_of_cell? w _ hx363_0)).trans hx363_0
            replace hx363_1 := (HB.out.cell (World.block_lt_of_cell? w _ hx363_1)).trans hx363_1
            replace p363 := eq_true p363
            replace q363 := eq_true q363
            have p364 : 0 ≤ (0 : Int) := (by omega)
            have q364 : 0 < (l0_8.length : Int) := of_decide_eq_true (by first | (with_reducible assumption) | assumption)
            obtain ⟨ad364, e364, hx364_0⟩ := Kd.at_int HR0_8.out 0 p364 q364
            cases e364
            have qi364 : (0 < l0_8.length) = True := eq_true (by omega)
            (try rw [show ((0 : Int)).toNat = 0 from rfl] at hx364_0)
            (try rw [Addr.add_zero'] at hx364_0)
            replace hx364_0 := (HB.out.cell (World.block_lt_of_cell? w _ hx364_0)).trans hx364_0
            replace p364 := eq_true p364
            replace q364 := eq_true q364
            go_wp2
            go_roundg k1
            case measure => have := HK1.out; omega
            case rel => exact ⟨(wrap64 (x5_1 + 1)), (by first | rfl | (simp; done) | (simp [*]; done)), H', ⟨by have := HK1.out; omega⟩, ⟨by (with_reducible repeat (first | refine blk_drewN ?_ _ | refine blk_drew ?_ | refine blk_alloc ?_ _)); exact BK357.out⟩, ⟨by repeat (first | (with_reducible first | exact HB.out | apply below_alloc | apply pw_below_drewN | apply below_drew1 | refine below_set ?_ GE357.out) | exact HB.out)⟩⟩
           ·rw [if_neg c18] at H
            have c18b0 : ((Int.tmod (wrap64 ((wrap64 (x5_1 - 1)) - (rd l0_8 0))) 2) == 0) = false := beq_eq_false_iff_ne.mpr c18
            have c18b1 : ((Int.tmod (wrap64 ((wrap64 (x5_1 - 1)) - (rd l0_8 0))) 2) != 0) = true := bne_iff_ne.mpr c18
            obtain rfl := Option.some.inj H
            have hcz20_0 : wr.cell? ⟨gb357, 0, none⟩ = some (.int .i64 a0_0) := (blk_cell BK357.out 0).trans rfl
            have hcz20_1 : wr.cell? ⟨gb357, 1, none⟩ = some (.int .i64 a0_1) := (blk_cell BK357.out 1).trans rfl
            have hcz20_2 : wr.cell? ⟨gb357, 2, none⟩ = some (.int .i64 a0_2) := (blk_cell BK357.out 2).trans rfl
            have hcz20_3 : wr.cell? ⟨gb357, 3, none⟩ = some (.int .i64 a0_3) := (blk_cell BK357.out 3).trans rfl
            have hcz20_4 : wr.cell? ⟨gb357, 4, none⟩ = some (.int .i64 a0_4) := (blk_cell BK357.out 4).trans rfl
            have hcz20_5 : wr.cell? ⟨gb357, 5, none⟩ = some (.int .i64 a0_5) := (blk_cell BK357.out 5).trans rfl
            have hcz20_6 : wr.cell? ⟨gb357, 6, none⟩ = some (.int .i64 a0_6) := (blk_cell BK357.out 6).trans rfl
            have hcz20_7 : wr.cell? ⟨gb357, 7, none⟩ = some (.int .i64 a0_7) := (blk_cell BK357.out 7).trans rfl
            have hcz20_8 : wr.cell? ⟨gb357, 8, none⟩ = some (.slice A0_8 l0_8.length c0_8) := (blk_cell BK357.out 8).trans rfl
            have hcz20_9 : wr.cell? ⟨gb357, 9, none⟩ = some (.slice A0_9 l0_9.length c0_9) := (blk_cell BK357.out 9).trans rfl
            have hfz20_0 := blk_frozen BK357.out 0
            have hfz20_1 := blk_frozen BK357.out 1
            have hfz20_2 := blk_frozen BK357.out 2
            have hfz20_3 := blk_frozen BK357.out 3
            have hfz20_4 := blk_frozen BK357.out 4
            have hfz20_5 := blk_frozen BK357.out 5
            have hfz20_6 := blk_frozen BK357.out 6
            have hfz20_7 := blk_frozen BK357.out 7
            have hfz20_8 := blk_frozen BK357.out 8
            have hfz20_9 := blk_frozen BK357.out 9
            have p363 : 0 ≤ (x5_1 : Int) := of_decide_eq_true (by first | (with_reducible assumption) | assumption)
            have q363 : x5_1 < (l0_9.length : Int) := of_decide_eq_true (by first | (with_reducible assumption) | assumption)
            obtain ⟨ad363, e363, hx363_0, hx363_1⟩ := at_T38 HR0_9.out x5_1 p363 q363
            cases e363
            replace hx363_0 := (HB.out.cell (World.block_lt_of_cell? w _ hx363_0)).trans hx363_0
            replace hx363_1 := (HB.out.cell (World.block_lt_of_cell? w _ hx363_1)).trans hx363_1
            replace p363 := eq_true p363
            replace q363 := eq_true q363
            have p364 : 0 ≤ (0 : Int) := (by omega)
            have q364 : 0 < (l0_8.length : Int) := of_decide_eq_true (by first | (with_reducible assumption) | assumption)
            obtain ⟨ad364, e364, hx364_0⟩ := Kd.at_int HR0_8.out 0 p364 q364
            cases e364
            have qi364 : (0 < l0_8.length) = True := eq_true (by omega)
            (try rw [show ((0 : Int)).toNat = 0 from rfl] at hx364_0)
            (try rw [Addr.add_zero'] at hx364_0)
            replace hx364_0 := (HB.out.cell (World.block_lt_of_cell? w _ hx364_0)).trans hx364_0
            replace p364 := eq_true p364
            replace q364 := eq_true q364
            go_wp2
            go_ret
            exact ⟨by first | rfl | (simp [errW_none, errW_some] <;> rfl) | (simp [*, errW_none, errW_some] <;> rfl), by repeat (first | (with_reducible first | exact HB.out | apply below_alloc | apply pw_below_drewN | apply below_drew1 | refine below_set ?_ GE357.out) | exact HB.out)⟩
         ·rw [if_neg c15] at H
          exact absurd H (by simp)
        ·rw [if_neg c14] at H
         have c14b0 : (a0_0 == 5) = false := beq_eq_false_iff_ne.mpr c14
         have c14b1 : (a0_0 != 5) = true := bne_iff_ne.mpr c14
         obtain rfl := Option.some.inj H
         have hcz21_0 : wr.cell? ⟨gb357, 0, none⟩ = some (.int .i64 a0_0) := (blk_cell BK357.out 0).trans rfl
         have hcz21_1 : wr.cell? ⟨gb357, 1, none⟩ = some (.int .i64 a0_1) := (blk_cell BK357.out 1).trans rfl
         have hcz21_2 : wr.cell? ⟨gb357, 2, none⟩ = some (.int .i64 a0_2) := (blk_cell BK357.out 2).trans rfl
         have hcz21_3 : wr.cell? ⟨gb357, 3, none⟩ = some (.int .i64 a0_3) := (blk_cell BK357.out 3).trans rfl
         have hcz21_4 : wr.cell? ⟨gb357, 4, none⟩ = some (.int .i64 a0_4) := (blk_cell BK357.out 4).trans rfl
         have hcz21_5 : wr.cell? ⟨gb357, 5, none⟩ = some (.int .i64 a0_5) := (blk_cell BK357.out 5).trans rfl
         have hcz21_6 : wr.cell? ⟨gb357, 6, none⟩ = some (.int .i64 a0_6) := (blk_cell BK357.out 6).trans rfl
         have hcz21_7 : wr.cell? ⟨gb357, 7, none⟩ = some (.int .i64 a0_7) := (blk_cell BK357.out 7).trans rfl
         have hcz21_8 : wr.cell? ⟨gb357, 8, none⟩ = some (.slice A0_8 l0_8.length c0_8) := (blk_cell BK357.out 8).trans rfl
         have hcz21_9 : wr.cell? ⟨gb357, 9, none⟩ = some (.slice A0_9 l0_9.length c0_9) := (blk_cell BK357.out 9).trans rfl
         have hfz21_0 := blk_frozen BK357.out 0
         have hfz21_1 := blk_frozen BK357.out 1
         have hfz21_2 := blk_frozen BK357.out 2
         have hfz21_3 := blk_frozen BK357.out 3
         have hfz21_4 := blk_frozen BK357.out 4
         have hfz21_5 := blk_frozen BK357.out 5
         have hfz21_6 := blk_frozen BK357.out 6
         have hfz21_7 := blk_frozen BK357.out 7
         have hfz21_8 := blk_frozen BK357.out 8
         have hfz21_9 := blk_frozen BK357.out 9
         have p363 : 0 ≤ (x5_1 : Int) := of_decide_eq_true (by first | (with_reducible assumption) | assumption)
         have q363 : x5_1 < (l0_9.length : Int) := of_decide_eq_true (by first | (with_reducible assumption) | assumption)
         obtain ⟨ad363, e363, hx363_0, hx363_1⟩ := at_T38 HR0_9.out x5_1 p363 q363
         cases e363
         replace hx363_0 := (HB.out.cell (World.block_lt_of_cell? w _ hx363_0)).trans hx363_0
         replace hx363_1 := (HB.out.cell (World.block_lt_of_cell? w _ hx363_1)).trans hx363_1
         replace p363 := eq_true p363
         replace q363 := eq_true q363
         go_wp2
         go_ret
         exact ⟨by first | rfl | (simp [errW_none, errW_some] <;> rfl) | (simp [*, errW_none, errW_some] <;> rfl), by repeat (first | (with_reducible first | exact HB.out | apply below_alloc | apply pw_below_drewN | apply below_drew1 | refine below_set ?_ GE357.out) | exact HB.out)⟩
       ·rw [if_neg c13] at H
        have c13b0 : (((rd_T38 l0_9 x5_1).f0) == 11) = false := beq_eq_false_iff_ne.mpr c13
        have c13b1 : (((rd_T38 l0_9 x5_1).f0) != 11) = true := bne_iff_ne.mpr c13
        have H' := Aside0.mk H
        clear H
        have hcz22_0 : wr.cell? ⟨gb357, 0, none⟩ = some (.int .i64 a0_0) := (blk_cell BK357.out 0).trans rfl
        have hcz22_1 : wr.cell? ⟨gb357, 1, none⟩ = some (.int .i64 a0_1) := (blk_cell BK357.out 1).trans rfl
        have hcz22_2 : wr.cell? ⟨gb357, 2, none⟩ = some (.int .i64 a0_2) := (blk_cell BK357.out 2).trans rfl
        have hcz22_3 : wr.cell? ⟨gb357, 3, none⟩ = some (.int .i64 a0_3) := (blk_cell BK357.out 3).trans rfl
        have hcz22_4 : wr.cell? ⟨gb357, 4, none⟩ = some (.int .i64 a0_4) := (blk_cell BK357.out 4).trans rfl
        have hcz22_5 : wr.cell? ⟨gb357, 5, none⟩ = some (.int .i64 a0_5) := (blk_cell BK357.out 5).trans rfl
        have hcz22_6 : wr.cell? ⟨gb357, 6, none⟩ = some (.int .i64 a0_6) := (blk_cell BK357.out 6).trans rfl
        have hcz22_7 : wr.cell? ⟨gb357, 7, none⟩ = some (.int .i64 a0_7) := (blk_cell BK357.out 7).trans rfl
        have hcz22_8 : wr.cell? ⟨gb357, 8, none⟩ = some (.slice A0_8 l0_8.length c0_8) := (blk_cell BK357.out 8).trans rfl
        have hcz22_9 : wr.cell? ⟨gb357, 9, none⟩ = some (.slice A0_9 l0_9.length c0_9) := (blk_cell BK357.out 9).trans rfl
        have hfz22_0 := blk_frozen BK357.out 0
        have hfz22_1 := blk_frozen BK357.out 1
        have hfz22_2 := blk_frozen BK357.out 2
        have hfz22_3 := blk_frozen BK357.out 3
        have hfz22_4 := blk_frozen BK357.out 4
        have hfz22_5 := blk_frozen BK357.out 5
        have hfz22_6 := blk_frozen BK357.out 6
        have hfz22_7 := blk_frozen BK357.out 7
        have hfz22_8 := blk_frozen BK357.out 8
        have hfz22_9 := blk_frozen BK357.out 9
        have p363 : 0 ≤ (x5_1 : Int) := of_decide_eq_true (by first | (with_reducible assumption) | assumption)
        have q363 : x5_1 < (l0_9.length : Int) := of_decide_eq_true (by first | (with_reducible assumption) | assumption)
        obtain ⟨ad363, e363, hx363_0, hx363_1⟩ := at_T38 HR0_9.out x5_1 p363 q363
        cases e363
        replace hx363_0 := (HB.out.cell (World.block_lt_of_cell? w _ hx363_0)).trans hx363_0
        replace hx363_1 := (HB.out.cell (World.block_lt_of_cell? w _ hx363_1)).trans hx363_1
        replace p363 := eq_true p363
        replace q363 := eq_true q363
        go_wp2
        go_roundg k1
        case measure => have := HK1.out; omega
        case rel => exact ⟨(wrap64 (x5_1 + 1)), (by first | rfl | (simp; done) | (simp [*]; done)), H', ⟨by have := HK1.out; omega⟩, ⟨by (with_reducible repeat (first | refine blk_drewN ?_ _ | refine blk_drew ?_ | refine blk_alloc ?_ _)); exact BK357.out⟩, ⟨by repeat (first | (with_reducible first | exact HB.out | apply below_alloc | apply pw_below_drewN | apply below_drew1 | refine below_set ?_ GE357.out) | exact HB.out)⟩⟩
      ·rw [if_neg c12] at H
       exact absurd H (by simp)
     ·rw [if_neg c11] at H
      have c11b0 : decide (x5_1 < (l0_9.length : Int)) = false := decide_eq_false c11
      clear c11
      obtain rfl := Option.some.inj H
      have hcz23_0 : wr.cell? ⟨gb357, 0, none⟩ = some (.int .i64 a0_0) := (blk_cell BK357.out 0).trans rfl
      have hcz23_1 : wr.cell? ⟨gb357, 1, none⟩ = some (.int .i64 a0_1) := (blk_cell BK357.out 1).trans rfl
      have hcz23_2 : wr.cell? ⟨gb357, 2, none⟩ = some (.int .i64 a0_2) := (blk_cell BK357.out 2).trans rfl
      have hcz23_3 : wr.cell? ⟨gb357, 3, none⟩ = some (.int .i64 a0_3) := (blk_cell BK357.out 3).trans rfl
      have hcz23_4 : wr.cell? ⟨gb357, 4, none⟩ = some (.int .i64 a0_4) := (blk_cell BK357.out 4).trans rfl
      have hcz23_5 : wr.cell? ⟨gb357, 5, none⟩ = some (.int .i64 a0_5) := (blk_cell BK357.out 5).trans rfl
      have hcz23_6 : wr.cell? ⟨gb357, 6, none⟩ = some (.int .i64 a0_6) := (blk_cell BK357.out 6).trans rfl
      have hcz23_7 : wr.cell? ⟨gb357, 7, none⟩ = some (.int .i64 a0_7) := (blk_cell BK357.out 7).trans rfl
      have hcz23_8 : wr.cell? ⟨gb357, 8, none⟩ = some (.slice A0_8 l0_8.length c0_8) := (blk_cell BK357.out 8).trans rfl
      have hcz23_9 : wr.cell? ⟨gb357, 9, none⟩ = some (.slice A0_9 l0_9.length c0_9) := (blk_cell BK357.out 9).trans rfl
      have hfz23_0 := blk_frozen BK357.out 0
      have hfz23_1 := blk_frozen BK357.out 1
      have hfz23_2 := blk_frozen BK357.out 2
      have hfz23_3 := blk_frozen BK357.out 3
      have hfz23_4 := blk_frozen BK357.out 4
      have hfz23_5 := blk_frozen BK357.out 5
      have hfz23_6 := blk_frozen BK357.out 6
      have hfz23_7 := blk_frozen BK357.out 7
      have hfz23_8 := blk_frozen BK357.out 8
      have hfz23_9 := blk_frozen BK357.out 9
      go_wp2
      go_ret
      exact ⟨by first | rfl | (simp [errW_none, errW_some] <;> rfl) | (simp [*, errW_none, errW_some] <;> rfl), by repeat (first | (with_reducible first | exact HB.out | apply below_alloc | apply pw_below_drewN | apply below_drew1 | refine below_set ?_ GE357.out) | exact HB.out)⟩
  ·replace c5 := Bool.eq_false_iff.mpr c5
   subst c5
   have H1 : (some 6) = some r := by rw [if_neg (show ¬ (false = true) by decide)] at H; exact H
   clear H
   have H := H1
   clear H1
   obtain rfl := Option.some.inj H
   go_enter Try.func33, Try.ntmps33
   go_wp2_with (first | ((with_reducible refine gate_dst (N := 1) rfl ?_); refine box_event ?hg (N := 1) ?hd (cs := #[.int .i64 a0_0, .int .i64 a0_1, .int .i64 a0_2, .int .i64 a0_3, .int .i64 a0_4, .int .i64 a0_5, .int .i64 a0_6, .int .i64 a0_7, .slice A0_8 l0_8.length c0_8, .slice A0_9 l0_9.length c0_9]) (t := 43) ?hr ?_; (case hd => rfl); (case hg => rfl); (case hr => first | (go_simp; done) | (go_simp; rfl)); intro gb357 hg w24 hbox hb; have n0_ := Aside0.mk (below_step (by repeat (first | (with_reducible first | exact HB.out | apply below_alloc | apply pw_below_drewN | apply below_drew1) | exact HB.out)) hb); have n1_ := Aside0.mk (hbox); have n2_ := Aside0.mk ((by rw [hg]; exact (below_size (by repeat (first | (with_reducible first | exact HB.out | apply below_alloc | apply pw_below_drewN | apply below_drew1) | exact HB.out))) : w.heap.size ≤ gb357)); have n3_ := Aside0.mk ((by rw [hg]; exact (below_size (by repeat (first | (with_reducible first | exact HB.out | apply below_alloc | apply pw_below_drewN | apply below_drew1) | exact HB.out))) : w.heap.size ≤ gb357)); clear HB; have HB := n0_; have BK357 := n1_; have GW357 := n2_; have GE357 := n3_; clear n0_ n1_ n2_ n3_; clear hb hbox hg; have hcz25_0 : w24.cell? ⟨gb357, 0, none⟩ = some (.int .i64 a0_0) := (blk_cell BK357.out 0).trans rfl; have hcz25_1 : w24.cell? ⟨gb357, 1, none⟩ = some (.int .i64 a0_1) := (blk_cell BK357.out 1).trans rfl; have hcz25_2 : w24.cell? ⟨gb357, 2, none⟩ = some (.int .i64 a0_2) := (blk_cell BK357.out 2).trans rfl; have hcz25_3 : w24.cell? ⟨gb357, 3, none⟩ = some (.int .i64 a0_3) := (blk_cell BK357.out 3).trans rfl; have hcz25_4 : w24.cell? ⟨gb357, 4, none⟩ = some (.int .i64 a0_4) := (blk_cell BK357.out 4).trans rfl; have hcz25_5 : w24.cell? ⟨gb357, 5, none⟩ = some (.int .i64 a0_5) := (blk_cell BK357.out 5).trans rfl; have hcz25_6 : w24.cell? ⟨gb357, 6, none⟩ = some (.int .i64 a0_6) := (blk_cell BK357.out 6).trans rfl; have hcz25_7 : w24.cell? ⟨gb357, 7, none⟩ = some (.int .i64 a0_7) := (blk_cell BK357.out 7).trans rfl; have hcz25_8 : w24.cell? ⟨gb357, 8, none⟩ = some (.slice A0_8 l0_8.length c0_8) := (blk_cell BK357.out 8).trans rfl; have hcz25_9 : w24.cell? ⟨gb357, 9, none⟩ = some (.slice A0_9 l0_9.length c0_9) := (blk_cell BK357.out 9).trans rfl; have hfz25_0 := blk_frozen BK357.out 0; have hfz25_1 := blk_frozen BK357.out 1; have hfz25_2 := blk_frozen BK357.out 2; have hfz25_3 := blk_frozen BK357.out 3; have hfz25_4 := blk_frozen BK357.out 4; have hfz25_5 := blk_frozen BK357.out 5; have hfz25_6 := blk_frozen BK357.out 6; have hfz25_7 := blk_frozen BK357.out 7; have hfz25_8 := blk_frozen BK357.out 8; have hfz25_9 := blk_frozen BK357.out 9) | ((with_reducible refine gate_callee (f := 27) rfl ?_); refine goesL_ (some 9) rfl rfl Try.func27 (by kernel_rfl) rfl #[.agg #[.int .i64 a0_0, .int .i64 a0_1, .int .i64 a0_2, .int .i64 a0_3, .int .i64 a0_4, .int .i64 a0_5, .int .i64 a0_6, .int .i64 a0_7, .slice A0_8 l0_8.length c0_8, .slice A0_9 l0_9.length c0_9]] rfl (by (try simp only [List.map_toArray, List.map_cons, List.map_nil]); first | done | rfl | (simp only [List.length_drop, List.length_take]; rfl)) ?_; (with_reducible refine (heirloomref04_Cells.calls k a0_0 a0_1 a0_2 a0_3 a0_4 a0_5 a0_6 a0_7 _ _ l0_8 _ _ l0_9 t358 t361 _ ?side1 ?side2 ?side3 ?side4 A2.out).mono ?_); (case side1 => repeat (first | exact (Kd.C_below HR0_8.out HB.out) | (with_reducible refine Kd.C_alloc ?_ _) | (with_reducible refine Kd.C_drewN ?_ _) | (with_reducible refine Kd.C_drew ?_))); (case side2 => exact HC0_8.out); (case side3 => repeat (first | exact (Kd.C_below HR0_9.out HB.out) | (with_reducible refine Kd.C_alloc ?_ _) | (with_reducible refine Kd.C_drewN ?_ _) | (with_reducible refine Kd.C_drew ?_))); (case side4 => exact HC0_9.out); rintro e w26 ⟨v359, rfl, ho0, hb⟩; refine ⟨_, rfl, ?_⟩; have n0_ := Aside0.mk (Kd.R_lower ho0 (below_size (by repeat (first | (with_reducible first | exact HB.out | apply below_alloc | apply pw_below_drewN | apply below_drew1 | refine below_set ?_ GE357.out) | exact HB.out)))); have n1_ := Aside0.mk (blk_below (g := gb357) (o := .cells #[.int .i64 a0_0, .int .i64 a0_1, .int .i64 a0_2, .int .i64 a0_3, .int .i64 a0_4, .int .i64 a0_5, .int .i64 a0_6, .int .i64 a0_7, .slice A0_8 l0_8.length c0_8, .slice A0_9 l0_9.length c0_9] 43 (0, 0)) (by (with_reducible repeat (first | refine blk_drewN ?_ _ | refine blk_drew ?_ | refine blk_alloc ?_ _)); exact BK357.out) hb); have n2_ := Aside0.mk (below_step (by repeat (first | (with_reducible first | exact HB.out | apply below_alloc | apply pw_below_drewN | apply below_drew1 | refine below_set ?_ GE357.out) | exact HB.out)) hb); clear BK357; clear HB; have HO360 := n0_; have BK357 := n1_; have HB := n2_; clear n0_ n1_ n2_; (try clear hb); (try clear hb2); (try clear hk); (try clear hi); (try clear ho0); have hcz27_0 : w26.cell? ⟨gb357, 0, none⟩ = some (.int .i64 a0_0) := (blk_cell BK357.out 0).trans rfl; have hcz27_1 : w26.cell? ⟨gb357, 1, none⟩ = some (.int .i64 a0_1) := (blk_cell BK357.out 1).trans rfl; have hcz27_2 : w26.cell? ⟨gb357, 2, none⟩ = some (.int .i64 a0_2) := (blk_cell BK357.out 2).trans rfl; have hcz27_3 : w26.cell? ⟨gb357, 3, none⟩ = some (.int .i64 a0_3) := (blk_cell BK357.out 3).trans rfl; have hcz27_4 : w26.cell? ⟨gb357, 4, none⟩ = some (.int .i64 a0_4) := (blk_cell BK357.out 4).trans rfl; have hcz27_5 : w26.cell? ⟨gb357, 5, none⟩ = some (.int .i64 a0_5) := (blk_cell BK357.out 5).trans rfl; have hcz27_6 : w26.cell? ⟨gb357, 6, none⟩ = some (.int .i64 a0_6) := (blk_cell BK357.out 6).trans rfl; have hcz27_7 : w26.cell? ⟨gb357, 7, none⟩ = some (.int .i64 a0_7) := (blk_cell BK357.out 7).trans rfl; have hcz27_8 : w26.cell? ⟨gb357, 8, none⟩ = some (.slice A0_8 l0_8.length c0_8) := (blk_cell BK357.out 8).trans rfl; have hcz27_9 : w26.cell? ⟨gb357, 9, none⟩ = some (.slice A0_9 l0_9.length c0_9) := (blk_cell BK357.out 9).trans rfl; have hfz27_0 := blk_frozen BK357.out 0; have hfz27_1 := blk_frozen BK357.out 1; have hfz27_2 := blk_frozen BK357.out 2; have hfz27_3 := blk_frozen BK357.out 3; have hfz27_4 := blk_frozen BK357.out 4; have hfz27_5 := blk_frozen BK357.out 5; have hfz27_6 := blk_frozen BK357.out 6; have hfz27_7 := blk_frozen BK357.out 7; have hfz27_8 := blk_frozen BK357.out 8; have hfz27_9 := blk_frozen BK357.out 9) | ((with_reducible refine gate_callee (f := 43) rfl ?_); refine goesL_ (some 16) rfl rfl Try.func43 (by kernel_rfl) rfl #[.agg #[.int .i64 a0_0, .int .i64 a0_1, .int .i64 a0_2, .int .i64 a0_3, .int .i64 a0_4, .int .i64 a0_5, .int .i64 a0_6, .int .i64 a0_7, .slice A0_8 l0_8.length c0_8, .slice A0_9 l0_9.length c0_9]] rfl (by (try simp only [List.map_toArray, List.map_cons, List.map_nil]); first | done | rfl | (simp only [List.length_drop, List.length_take]; rfl)) ?_; (with_reducible refine (heirloomref04_fits.calls k a0_0 a0_1 a0_2 a0_3 a0_4 a0_5 a0_6 a0_7 _ _ l0_8 _ _ l0_9 false _ ?side1 ?side2 ?side3 ?side4 A4.out).mono ?_); (case side1 => repeat (first | exact (Kd.C_below HR0_8.out HB.out) | (with_reducible refine Kd.C_alloc ?_ _) | (with_reducible refine Kd.C_drewN ?_ _) | (with_reducible refine Kd.C_drew ?_))); (case side2 => exact HC0_8.out); (case side3 => repeat (first | exact (Kd.C_below HR0_9.out HB.out) | (with_reducible refine Kd.C_alloc ?_ _) | (with_reducible refine Kd.C_drewN ?_ _) | (with_reducible refine Kd.C_drew ?_))); (case side4 => exact HC0_9.out); rintro e w28 ⟨rfl, hb⟩; refine ⟨_, rfl, ?_⟩; have n0_ := Aside0.mk (Kd.R_below (by (with_reducible repeat (first | apply Kd.R_alloc | apply Kd.R_drewN | apply Kd.R_drew)); exact HO360.out) hb); have n1_ := Aside0.mk (blk_below (g := gb357) (o := .cells #[.int .i64 a0_0, .int .i64 a0_1, .int .i64 a0_2, .int .i64 a0_3, .int .i64 a0_4, .int .i64 a0_5, .int .i64 a0_6, .int .i64 a0_7, .slice A0_8 l0_8.length c0_8, .slice A0_9 l0_9.length c0_9] 43 (0, 0)) (by (with_reducible repeat (first | refine blk_drewN ?_ _ | refine blk_drew ?_ | refine blk_alloc ?_ _)); exact BK357.out) hb); have n2_ := Aside0.mk (below_step (by repeat (first | (with_reducible first | exact HB.out | apply below_alloc | apply pw_below_drewN | apply below_drew1 | refine below_set ?_ GE357.out) | exact HB.out)) hb); clear HO360; clear BK357; clear HB; have HO360 := n0_; have BK357 := n1_; have HB := n2_; clear n0_ n1_ n2_; (try clear hb); (try clear hb2); (try clear hk); (try clear hi)))
   go_ret
   exact ⟨by first | rfl | (simp [errW_none, errW_some] <;> rfl) | (simp [*, errW_none, errW_some] <;> rfl), by repeat (first | (with_reducible first | exact HB.out | apply below_alloc | apply pw_below_drewN | apply below_drew1 | refine below_set ?_ GE357.out) | exact HB.out)⟩
 ·rw [if_neg c3] at H
  have c3b0 : (t361 == 0) = false := beq_eq_false_iff_ne.mpr c3
  have c3b1 : (t361 != 0) = true := bne_iff_ne.mpr c3
  obtain rfl := Option.some.inj H
  go_enter Try.func33, Try.ntmps33
  go_wp2_with (first | ((with_reducible refine gate_dst (N := 1) rfl ?_); refine box_event ?hg (N := 1) ?hd (cs := #[.int .i64 a0_0, .int .i64 a0_1, .int .i64 a0_2, .int .i64 a0_3, .int .i64 a0_4, .int .i64 a0_5, .int .i64 a0_6, .int .i64 a0_7, .slice A0_8 l0_8.length c0_8, .slice A0_9 l0_9.length c0_9]) (t := 43) ?hr ?_; (case hd => rfl); (case hg => rfl); (case hr => first | (go_simp; done) | (go_simp; rfl)); intro gb357 hg w29 hbox hb; have n0_ := Aside0.mk (below_step (by repeat (first | (with_reducible first | exact HB.out | apply below_alloc | apply pw_below_drewN | apply below_drew1) | exact HB.out)) hb); have n1_ := Aside0.mk (hbox); have n2_ := Aside0.mk ((by rw [hg]; exact (below_size (by repeat (first | (with_reducible first | exact HB.out | apply below_alloc | apply pw_below_drewN | apply below_drew1) | exact HB.out))) : w.heap.size ≤ gb357)); have n3_ := Aside0.mk ((by rw [hg]; exact (below_size (by repeat (first | (with_reducible first | exact HB.out | apply below_alloc | apply pw_below_drewN | apply below_drew1) | exact HB.out))) : w.heap.size ≤ gb357)); clear HB; have HB := n0_; have BK357 := n1_; have GW357 := n2_; have GE357 := n3_; clear n0_ n1_ n2_ n3_; clear hb hbox hg; have hcz30_0 : w29.cell? ⟨gb357, 0, none⟩ = some (.int .i64 a0_0) := (blk_cell BK357.out 0).trans rfl; have hcz30_1 : w29.cell? ⟨gb357, 1, none⟩ = some (.int .i64 a0_1) := (blk_cell BK357.out 1).trans rfl; have hcz30_2 : w29.cell? ⟨gb357, 2, none⟩ = some (.int .i64 a0_2) := (blk_cell BK357.out 2).trans rfl; have hcz30_3 : w29.cell? ⟨gb357, 3, none⟩ = some (.int .i64 a0_3) := (blk_cell BK357.out 3).trans rfl; have hcz30_4 : w29.cell? ⟨gb357, 4, none⟩ = some (.int .i64 a0_4) := (blk_cell BK357.out 4).trans rfl; have hcz30_5 : w29.cell? ⟨gb357, 5, none⟩ = some (.int .i64 a0_5) := (blk_cell BK357.out 5).trans rfl; have hcz30_6 : w29.cell? ⟨gb357, 6, none⟩ = some (.int .i64 a0_6) := (blk_cell BK357.out 6).trans rfl; have hcz30_7 : w29.cell? ⟨gb357, 7, none⟩ = some (.int .i64 a0_7) := (blk_cell BK357.out 7).trans rfl; have hcz30_8 : w29.cell? ⟨gb357, 8, none⟩ = some (.slice A0_8 l0_8.length c0_8) := (blk_cell BK357.out 8).trans rfl; have hcz30_9 : w29.cell? ⟨gb357, 9, none⟩ = some (.slice A0_9 l0_9.length c0_9) := (blk_cell BK357.out 9).trans rfl; have hfz30_0 := blk_frozen BK357.out 0; have hfz30_1 := blk_frozen BK357.out 1; have hfz30_2 := blk_frozen BK357.out 2; have hfz30_3 := blk_frozen BK357.out 3; have hfz30_4 := blk_frozen BK357.out 4; have hfz30_5 := blk_frozen BK357.out 5; have hfz30_6 := blk_frozen BK357.out 6; have hfz30_7 := blk_frozen BK357.out 7; have hfz30_8 := blk_frozen BK357.out 8; have hfz30_9 := blk_frozen BK357.out 9) | ((with_reducible refine gate_callee (f := 27) rfl ?_); refine goesL_ (some 9) rfl rfl Try.func27 (by kernel_rfl) rfl #[.agg #[.int .i64 a0_0, .int .i64 a0_1, .int .i64 a0_2, .int .i64 a0_3, .int .i64 a0_4, .int .i64 a0_5, .int .i64 a0_6, .int .i64 a0_7, .slice A0_8 l0_8.length c0_8, .slice A0_9 l0_9.length c0_9]] rfl (by (try simp only [List.map_toArray, List.map_cons, List.map_nil]); first | done | rfl | (simp only [List.length_drop, List.length_take]; rfl)) ?_; (with_reducible refine (heirloomref04_Cells.calls k a0_0 a0_1 a0_2 a0_3 a0_4 a0_5 a0_6 a0_7 _ _ l0_8 _ _ l0_9 t358 t361 _ ?side1 ?side2 ?side3 ?side4 A2.out).mono ?_); (case side1 => repeat (first | exact (Kd.C_below HR0_8.out HB.out) | (with_reducible refine Kd.C_alloc ?_ _) | (with_reducible refine Kd.C_drewN ?_ _) | (with_reducible refine Kd.C_drew ?_))); (case side2 => exact HC0_8.out); (case side3 => repeat (first | exact (Kd.C_below HR0_9.out HB.out) | (with_reducible refine Kd.C_alloc ?_ _) | (with_reducible refine Kd.C_drewN ?_ _) | (with_reducible refine Kd.C_drew ?_))); (case side4 => exact HC0_9.out); rintro e w31 ⟨v359, rfl, ho0, hb⟩; refine ⟨_, rfl, ?_⟩; have n0_ := Aside0.mk (Kd.R_lower ho0 (below_size (by repeat (first | (with_reducible first | exact HB.out | apply below_alloc | apply pw_below_drewN | apply below_drew1 | refine below_set ?_ GE357.out) | exact HB.out)))); have n1_ := Aside0.mk (blk_below (g := gb357) (o := .cells #[.int .i64 a0_0, .int .i64 a0_1, .int .i64 a0_2, .int .i64 a0_3, .int .i64 a0_4, .int .i64 a0_5, .int .i64 a0_6, .int .i64 a0_7, .slice A0_8 l0_8.length c0_8, .slice A0_9 l0_9.length c0_9] 43 (0, 0)) (by (with_reducible repeat (first | refine blk_drewN ?_ _ | refine blk_drew ?_ | refine blk_alloc ?_ _)); exact BK357.out) hb); have n2_ := Aside0.mk (below_step (by repeat (first | (with_reducible first | exact HB.out | apply below_alloc | apply pw_below_drewN | apply below_drew1 | refine below_set ?_ GE357.out) | exact HB.out)) hb); clear BK357; clear HB; have HO360 := n0_; have BK357 := n1_; have HB := n2_; clear n0_ n1_ n2_; (try clear hb); (try clear hb2); (try clear hk); (try clear hi); (try clear ho0)))
  go_ret
  exact ⟨by first | rfl | (simp [errW_none, errW_some] <;> rfl) | (simp [*, errW_none, errW_some] <;> rfl), by repeat (first | (with_reducible first | exact HB.out | apply below_alloc | apply pw_below_drewN | apply below_drew1 | refine below_set ?_ GE357.out) | exact HB.out)⟩

end Go.Proofs.Ytepoalgoombpeaa.Print
