/- PROVED: each Lean function of this text answers as the Go function of its name does. Conditions: none beyond what each theorem states. (Written by the session's own program xprint.py.) -/
import Derived.Test.YtepoalgoombpeaaPrintx0
namespace Go.Proofs.Ytepoalgoombpeaa.Print
open Go.RowKit Go.Proofs.YtepoalgoombpeaaW.PrintWords Go.Proofs.YtepoalgoombpeaaW.PrintLast Go.Proofs.YtepoalgoombpeaaW.PrintMore
attribute [local go_sem] max2_int min2_int max_two min_two max_three min_three max_four min_four   -- for this text's walks alone
set_option linter.unusedVariables false
set_option linter.unusedSimpArgs false

/-! ### object_table: function 48 -/
def object_table.j0 : Nat → Bool → Int → Int → Int → Int → Int → Int → Int → Int → List Int → List (S38) → Option (Bool)
 | 0, _, _, _, _, _, _, _, _, _, _, _ => none
 | k + 1, x30, x193000, x193001, x193002, x193003, x193004, x193005, x193006, x193007, x193008, x193009 => if x30 = true then (some false) else (if 0 < (x193008.length : Int) then (if 1 < (x193008.length : Int) then (if (rd x193008 0) < 0 then (some false) else (if (rd x193008 0) > 4096 then (some false) else (if (rd x193008 1) < 0 then (some false) else (if (rd x193008 1) > 4096 then (some false) else (if (Go.bits .and .i64 (rd x193008 1) (wrap64 ((rd x193008 1) - 1))) = 0 then (some ((x193009.length : Int) == (wrap64 ((wrap64 (1 + (rd x193008 0))) + (wrap64 (2 * (rd x193008 1))))))) else (some false)))))) else (none)) else (none))
def object_table.f (k : Nat) (a0_0 : Int) (a0_1 : Int) (a0_2 : Int) (a0_3 : Int) (a0_4 : Int) (a0_5 : Int) (a0_6 : Int) (a0_7 : Int) (l0_8 : List Int) (l0_9 : List (S38)) : Option (Bool) := if (l0_8.length : Int) = 2 then (if (l0_9.length : Int) = 0 then (object_table.j0 k true a0_0 a0_1 a0_2 a0_3 a0_4 a0_5 a0_6 a0_7 l0_8 l0_9) else (if 0 < (l0_9.length : Int) then (if ((rd_T38 l0_9 0).f0) = 0 then (object_table.j0 k false a0_0 a0_1 a0_2 a0_3 a0_4 a0_5 a0_6 a0_7 l0_8 l0_9) else (object_table.j0 k (((rd_T38 l0_9 0).f0) != 5) a0_0 a0_1 a0_2 a0_3 a0_4 a0_5 a0_6 a0_7 l0_8 l0_9)) else (none))) else (object_table.j0 k true a0_0 a0_1 a0_2 a0_3 a0_4 a0_5 a0_6 a0_7 l0_8 l0_9)
theorem object_table.mono_l : ∀ k, (∀ y0 y1 y2 y3 y4 y5 y6 y7 y8 y9 y10, LeO (object_table.j0 k y0 y1 y2 y3 y4 y5 y6 y7 y8 y9 y10) (object_table.j0 (k + 1) y0 y1 y2 y3 y4 y5 y6 y7 y8 y9 y10))
 | 0 => fun _ _ _ _ _ _ _ _ _ _ _ r h => by simp [object_table.j0] at h
 | k + 1 => by
  have ih0 := object_table.mono_l k
  ·intro y0 y1 y2 y3 y4 y5 y6 y7 y8 y9 y10
   unfold object_table.j0
   repeat' first
   | (with_reducible exact ih0 _ _ _ _ _ _ _ _ _ _ _)
   | (with_reducible exact LeO.refl _)
   | (with_reducible exact LeO.none _)
   | (with_reducible refine LeO.ite ?_ ?_)
   | (with_reducible refine LeO.bind ?_ (fun _ => ?_))
   | exact ih0 _ _ _ _ _ _ _ _ _ _ _
   | exact LeO.none _
   | refine LeO.ite ?_ ?_
   | refine LeO.bind ?_ (fun _ => ?_)
theorem object_table.mono : ∀ a0 a1 a2 a3 a4 a5 a6 a7 a8 a9 k, LeO (object_table.f k a0 a1 a2 a3 a4 a5 a6 a7 a8 a9) (object_table.f (k + 1) a0 a1 a2 a3 a4 a5 a6 a7 a8 a9) := by
 intro a0 a1 a2 a3 a4 a5 a6 a7 a8 a9 k
 have ih0 := object_table.mono_l k
 unfold object_table.f
 repeat' first
   | (with_reducible exact ih0 _ _ _ _ _ _ _ _ _ _ _)
   | (with_reducible exact LeO.refl _)
   | (with_reducible exact LeO.none _)
   | (with_reducible refine LeO.ite ?_ ?_)
   | (with_reducible refine LeO.bind ?_ (fun _ => ?_))
   | exact ih0 _ _ _ _ _ _ _ _ _ _ _
   | exact LeO.none _
   | refine LeO.ite ?_ ?_
   | refine LeO.bind ?_ (fun _ => ?_)
set_option maxHeartbeats 8000000 in
set_option maxRecDepth 100000 in
theorem object_table.calls (k : Nat) (a0_0 : Int) (a0_1 : Int) (a0_2 : Int) (a0_3 : Int) (a0_4 : Int) (a0_5 : Int) (a0_6 : Int) (a0_7 : Int) (A0_8 : Option Addr) (c0_8 : Nat) (l0_8 : List Int) (A0_9 : Option Addr) (c0_9 : Nat) (l0_9 : List (S38)) (r : Bool) (w : World) (hr0_8 : Kd.C (Kd.int .i64) w A0_8 l0_8.length l0_8) (hc0_8 : l0_8.length ≤ c0_8) (hr0_9 : Kd.C k38 w A0_9 l0_9.length l0_9) (hc0_9 : l0_9.length ≤ c0_9) (h : object_table.f k a0_0 a0_1 a0_2 a0_3 a0_4 a0_5 a0_6 a0_7 l0_8 l0_9 = some r) :
  Calls Try.prog 48 #[.agg #[.int .i64 a0_0, .int .i64 a0_1, .int .i64 a0_2, .int .i64 a0_3, .int .i64 a0_4, .int .i64 a0_5, .int .i64 a0_6, .int .i64 a0_7, .slice A0_8 l0_8.length c0_8, .slice A0_9 l0_9.length c0_9]] w fun e w' => e = .returned (.bool r) ∧ Below w.heap.size w w' := by
 have hu43 := Try.underlying43
 have HR0_8 := Aside0.mk hr0_8
 have HC0_8 := Aside0.mk hc0_8
 clear hr0_8 hc0_8
 have HR0_9 := Aside0.mk hr0_9
 have HC0_9 := Aside0.mk hc0_9
 clear hr0_9 hc0_9
 have HB := Aside0.mk (Below.refl w.heap.size w)
 have H : (if (l0_8.length : Int) = 2 then (if (l0_9.length : Int) = 0 then (object_table.j0 k true a0_0 a0_1 a0_2 a0_3 a0_4 a0_5 a0_6 a0_7 l0_8 l0_9) else (if 0 < (l0_9.length : Int) then (if ((rd_T38 l0_9 0).f0) = 0 then (object_table.j0 k false a0_0 a0_1 a0_2 a0_3 a0_4 a0_5 a0_6 a0_7 l0_8 l0_9) else (object_table.j0 k (((rd_T38 l0_9 0).f0) != 5) a0_0 a0_1 a0_2 a0_3 a0_4 a0_5 a0_6 a0_7 l0_8 l0_9)) else (none))) else (object_table.j0 k true a0_0 a0_1 a0_2 a0_3 a0_4 a0_5 a0_6 a0_7 l0_8 l0_9)) = some r := h
 clear h
 have HC2 := Aside0.mk H
 clear H
 go_enter Try.func48, Try.ntmps48
 go_upto_region 1 with (first | ((with_reducible refine gate_dst (N := 1) rfl ?_); (try (refine gate_guard (by rfl) ?_; dsimp only)); refine box_event ?hg (N := 1) ?hd (cs := #[.int .i64 a0_0, .int .i64 a0_1, .int .i64 a0_2, .int .i64 a0_3, .int .i64 a0_4, .int .i64 a0_5, .int .i64 a0_6, .int .i64 a0_7, .slice A0_8 l0_8.length c0_8, .slice A0_9 l0_9.length c0_9]) (t := 43) ?hr ?_; (case hd => rfl); (case hg => rfl); (case hr => first | (go_simp; done) | (go_simp; rfl)); intro gb192 hg w3 hbox hb; have n0_ := Aside0.mk (below_step (by repeat (first | (with_reducible first | exact HB.out | apply below_alloc | apply pw_below_drewN | apply below_drew1) | exact HB.out)) hb); have n1_ := Aside0.mk (hbox); have n2_ := Aside0.mk ((by rw [hg]; exact (below_size (by repeat (first | (with_reducible first | exact HB.out | apply below_alloc | apply pw_below_drewN | apply below_drew1) | exact HB.out))) : w.heap.size ≤ gb192)); have n3_ := Aside0.mk ((by rw [hg]; exact (below_size (by repeat (first | (with_reducible first | exact HB.out | apply below_alloc | apply pw_below_drewN | apply below_drew1) | exact HB.out))) : w.heap.size ≤ gb192)); clear HB; have HB := n0_; have BK192 := n1_; have GW192 := n2_; have GE192 := n3_; clear n0_ n1_ n2_ n3_; clear hb hbox hg))
 repeat (go_quiet (first | ((with_reducible refine gate_dst (N := 1) rfl ?_); (try (refine gate_guard (by rfl) ?_; dsimp only)); refine box_event ?hg (N := 1) ?hd (cs := #[.int .i64 a0_0, .int .i64 a0_1, .int .i64 a0_2, .int .i64 a0_3, .int .i64 a0_4, .int .i64 a0_5, .int .i64 a0_6, .int .i64 a0_7, .slice A0_8 l0_8.length c0_8, .slice A0_9 l0_9.length c0_9]) (t := 43) ?hr ?_; (case hd => rfl); (case hg => rfl); (case hr => first | (go_simp; done) | (go_simp; rfl)); intro gb192 hg w3 hbox hb; have n0_ := Aside0.mk (below_step (by repeat (first | (with_reducible first | exact HB.out | apply below_alloc | apply pw_below_drewN | apply below_drew1) | exact HB.out)) hb); have n1_ := Aside0.mk (hbox); have n2_ := Aside0.mk ((by rw [hg]; exact (below_size (by repeat (first | (with_reducible first | exact HB.out | apply below_alloc | apply pw_below_drewN | apply below_drew1) | exact HB.out))) : w.heap.size ≤ gb192)); have n3_ := Aside0.mk ((by rw [hg]; exact (below_size (by repeat (first | (with_reducible first | exact HB.out | apply below_alloc | apply pw_below_drewN | apply below_drew1) | exact HB.out))) : w.heap.size ≤ gb192)); clear HB; have HB := n0_; have BK192 := n1_; have GW192 := n2_; have GE192 := n3_; clear n0_ n1_ n2_ n3_; clear hb hbox hg)); go_upto_region 1 with (first | ((with_reducible refine gate_dst (N := 1) rfl ?_); (try (refine gate_guard (by rfl) ?_; dsimp only)); refine box_event ?hg (N := 1) ?hd (cs := #[.int .i64 a0_0, .int .i64 a0_1, .int .i64 a0_2, .int .i64 a0_3, .int .i64 a0_4, .int .i64 a0_5, .int .i64 a0_6, .int .i64 a0_7, .slice A0_8 l0_8.length c0_8, .slice A0_9 l0_9.length c0_9]) (t := 43) ?hr ?_; (case hd => rfl); (case hg => rfl); (case hr => first | (go_simp; done) | (go_simp; rfl)); intro gb192 hg w3 hbox hb; have n0_ := Aside0.mk (below_step (by repeat (first | (with_reducible first | exact HB.out | apply below_alloc | apply pw_below_drewN | apply below_drew1) | exact HB.out)) hb); have n1_ := Aside0.mk (hbox); have n2_ := Aside0.mk ((by rw [hg]; exact (below_size (by repeat (first | (with_reducible first | exact HB.out | apply below_alloc | apply pw_below_drewN | apply below_drew1) | exact HB.out))) : w.heap.size ≤ gb192)); have n3_ := Aside0.mk ((by rw [hg]; exact (below_size (by repeat (first | (with_reducible first | exact HB.out | apply below_alloc | apply pw_below_drewN | apply below_drew1) | exact HB.out))) : w.heap.size ≤ gb192)); clear HB; have HB := n0_; have BK192 := n1_; have GW192 := n2_; have GE192 := n3_; clear n0_ n1_ n2_ n3_; clear hb hbox hg)))
 (try simp only [Act.put, List.setIfInBounds_toArray, List.set_cons_zero, List.set_cons_succ])
 go_cut [30] (fun v30 wc => ∃ (kq : Nat) (x30_1 : Bool), v30 = .bool x30_1 ∧ Aside0 (object_table.j0 kq x30_1 a0_0 a0_1 a0_2 a0_3 a0_4 a0_5 a0_6 a0_7 l0_8 l0_9 = some r) ∧ Aside0 (kq ≤ k) ∧ Aside0 (wc.heap[gb192]? = some (.cells #[.int .i64 a0_0, .int .i64 a0_1, .int .i64 a0_2, .int .i64 a0_3, .int .i64 a0_4, .int .i64 a0_5, .int .i64 a0_6, .int .i64 a0_7, (.slice A0_8 l0_8.length c0_8), (.slice A0_9 l0_9.length c0_9)] 43 (0, 0))) ∧ Aside0 (Below w.heap.size w wc))
 case first =>
  have H := HC2.out
  clear HC2
  by_cases c4 : (l0_8.length : Int) = 2
  ·rw [if_pos c4] at H
   have c4b0 : ((l0_8.length : Int) == 2) = true := beq_iff_eq.mpr c4
   have c4b1 : ((l0_8.length : Int) != 2) = false := bne_eq_false_iff_eq.mpr c4
   clear c4
   (first | rw [c4b0] | (simp only [i64_w, i32_w]; rw [c4b0]) | skip)
   by_cases c5 : (l0_9.length : Int) = 0
   ·rw [if_pos c5] at H
    have c5b0 : ((l0_9.length : Int) == 0) = true := beq_iff_eq.mpr c5
    have c5b1 : ((l0_9.length : Int) != 0) = false := bne_eq_false_iff_eq.mpr c5
    clear c5
    have H' := Aside0.mk H
    clear H
    have hcz6_0 : w3.cell? ⟨gb192, 0, none⟩ = some (.int .i64 a0_0) := (blk_cell BK192.out 0).trans rfl
    have hcz6_1 : w3.cell? ⟨gb192, 1, none⟩ = some (.int .i64 a0_1) := (blk_cell BK192.out 1).trans rfl
    have hcz6_2 : w3.cell? ⟨gb192, 2, none⟩ = some (.int .i64 a0_2) := (blk_cell BK192.out 2).trans rfl
    have hcz6_3 : w3.cell? ⟨gb192, 3, none⟩ = some (.int .i64 a0_3) := (blk_cell BK192.out 3).trans rfl
    have hcz6_4 : w3.cell? ⟨gb192, 4, none⟩ = some (.int .i64 a0_4) := (blk_cell BK192.out 4).trans rfl
    have hcz6_5 : w3.cell? ⟨gb192, 5, none⟩ = some (.int .i64 a0_5) := (blk_cell BK192.out 5).trans rfl
    have hcz6_6 : w3.cell? ⟨gb192, 6, none⟩ = some (.int .i64 a0_6) := (blk_cell BK192.out 6).trans rfl
    have hcz6_7 : w3.cell? ⟨gb192, 7, none⟩ = some (.int .i64 a0_7) := (blk_cell BK192.out 7).trans rfl
    have hcz6_8 : w3.cell? ⟨gb192, 8, none⟩ = some (.slice A0_8 l0_8.length c0_8) := (blk_cell BK192.out 8).trans rfl
    have hcz6_9 : w3.cell? ⟨gb192, 9, none⟩ = some (.slice A0_9 l0_9.length c0_9) := (blk_cell BK192.out 9).trans rfl
    have hfz6_0 := blk_frozen BK192.out 0
    have hfz6_1 := blk_frozen BK192.out 1
    have hfz6_2 := blk_frozen BK192.out 2
    have hfz6_3 := blk_frozen BK192.out 3
    have hfz6_4 := blk_frozen BK192.out 4
    have hfz6_5 := blk_frozen BK192.out 5
    have hfz6_6 := blk_frozen BK192.out 6
    have hfz6_7 := blk_frozen BK192.out 7
    have hfz6_8 := blk_frozen BK192.out 8
    have hfz6_9 := blk_frozen BK192.out 9
    go_wp2
    repeat (go_quiet (fail); try go_wp2)
    go_meet
    case rel => exact ⟨_, (true), (by first | rfl | (simp; done) | (simp [*]; done)), H', ⟨by first | omega | exact Nat.le_refl _⟩, ⟨by (with_reducible repeat (first | refine blk_drewN ?_ _ | refine blk_drew ?_ | refine blk_alloc ?_ _)); exact BK192.out⟩, ⟨by repeat (first | (with_reducible first | exact HB.out | apply below_alloc | apply pw_below_drewN | apply below_drew1 | refine below_set ?_ GE192.out) | exact HB.out)⟩⟩
   ·rw [if_neg c5] at H
    have c5b0 : ((l0_9.length : Int) == 0) = false := beq_eq_false_iff_ne.mpr c5
    have c5b1 : ((l0_9.length : Int) != 0) = true := bne_iff_ne.mpr c5
    have c5b2 : ¬ (l0_9 = []) := fun h_ => c5 (by rw [h_]; rfl)
    by_cases c7 : 0 < (l0_9.length : Int)
    ·rw [if_pos c7] at H
     have c7b0 : decide (0 < (l0_9.length : Int)) = true := decide_eq_true c7
     have c7b1 : decide (0 < l0_9.length) = true := decide_eq_true (by omega)
     clear c7
     by_cases c8 : ((rd_T38 l0_9 0).f0) = 0
     ·rw [if_pos c8] at H
      have c8b0 : (((rd_T38 l0_9 0).f0) == 0) = true := beq_iff_eq.mpr c8
      have c8b1 : (((rd_T38 l0_9 0).f0) != 0) = false := bne_eq_false_iff_eq.mpr c8
      clear c8
      have H' := Aside0.mk H
      clear H
      have hcz9_0 : w3.cell? ⟨gb192, 0, none⟩ = some (.int .i64 a0_0) := (blk_cell BK192.out 0).trans rfl
      have hcz9_1 : w3.cell? ⟨gb192, 1, none⟩ = some (.int .i64 a0_1) := (blk_cell BK192.out 1).trans rfl
      have hcz9_2 : w3.cell? ⟨gb192, 2, none⟩ = some (.int .i64 a0_2) := (blk_cell BK192.out 2).trans rfl
      have hcz9_3 : w3.cell? ⟨gb192, 3, none⟩ = some (.int .i64 a0_3) := (blk_cell BK192.out 3).trans rfl
      have hcz9_4 : w3.cell? ⟨gb192, 4, none⟩ = some (.int .i64 a0_4) := (blk_cell BK192.out 4).trans rfl
      have hcz9_5 : w3.cell? ⟨gb192, 5, none⟩ = some (.int .i64 a0_5) := (blk_cell BK192.out 5).trans rfl
      have hcz9_6 : w3.cell? ⟨gb192, 6, none⟩ = some (.int .i64 a0_6) := (blk_cell BK192.out 6).trans rfl
      have hcz9_7 : w3.cell? ⟨gb192, 7, none⟩ = some (.int .i64 a0_7) := (blk_cell BK192.out 7).trans rfl
      have hcz9_8 : w3.cell? ⟨gb192, 8, none⟩ = some (.slice A0_8 l0_8.length c0_8) := (blk_cell BK192.out 8).trans rfl
      have hcz9_9 : w3.cell? ⟨gb192, 9, none⟩ = some (.slice A0_9 l0_9.length c0_9) := (blk_cell BK192.out 9).trans rfl
      have hfz9_0 := blk_frozen BK192.out 0
      have hfz9_1 := blk_frozen BK192.out 1
      have hfz9_2 := blk_frozen BK192.out 2
      have hfz9_3 := blk_frozen BK192.out 3
      have hfz9_4 := blk_frozen BK192.out 4
      have hfz9_5 := blk_frozen BK192.out 5
      have hfz9_6 := blk_frozen BK192.out 6
      have hfz9_7 := blk_frozen BK192.out 7
      have hfz9_8 := blk_frozen BK192.out 8
      have hfz9_9 := blk_frozen BK192.out 9
      have p193 : 0 ≤ (0 : Int) := (by omega)
      have q193 : 0 < (l0_9.length : Int) := of_decide_eq_true (by first | (with_reducible assumption) | assumption)
      obtain ⟨ad193, e193, hx193_0, hx193_1⟩ := at_T38 HR0_9.out 0 p193 q193
      cases e193
      have qi193 : (0 < l0_9.length) = True := eq_true (by omega)
      (try rw [show ((0 : Int)).toNat = 0 from rfl] at hx193_0)
      (try rw [show 0 * 2 = 0 from rfl] at hx193_0)
      (try rw [Addr.add_zero'] at hx193_0)
      (try rw [show ((0 : Int)).toNat = 0 from rfl] at hx193_1)
      (try rw [show 0 * 2 = 0 from rfl] at hx193_1)
      (try rw [Addr.add_zero'] at hx193_1)
      replace hx193_0 := (HB.out.cell (World.block_lt_of_cell? w _ hx193_0)).trans hx193_0
      replace hx193_1 := (HB.out.cell (World.block_lt_of_cell? w _ hx193_1)).trans hx193_1
      replace p193 := eq_true p193
      replace q193 := eq_true q193
      go_wp2
      repeat (go_quiet (fail); try go_wp2)
      go_meet
      case rel => exact ⟨_, (false), (by first | rfl | (simp; done) | (simp [*]; done)), H', ⟨by first | omega | exact Nat.le_refl _⟩, ⟨by (with_reducible repeat (first | refine blk_drewN ?_ _ | refine blk_drew ?_ | refine blk_alloc ?_ _)); exact BK192.out⟩, ⟨by repeat (first | (with_reducible first | exact HB.out | apply below_alloc | apply pw_below_drewN | apply below_drew1 | refine below_set ?_ GE192.out) | exact HB.out)⟩⟩
     ·rw [if_neg c8] at H
      have c8b0 : (((rd_T38 l0_9 0).f0) == 0) = false := beq_eq_false_iff_ne.mpr c8
      have c8b1 : (((rd_T38 l0_9 0).f0) != 0) = true := bne_iff_ne.mpr c8
      have H' := Aside0.mk H
      clear H
      have hcz10_0 : w3.cell? ⟨gb192, 0, none⟩ = some (.int .i64 a0_0) := (blk_cell BK192.out 0).trans rfl
      have hcz10_1 : w3.cell? ⟨gb192, 1, none⟩ = some (.int .i64 a0_1) := (blk_cell BK192.out 1).trans rfl
      have hcz10_2 : w3.cell? ⟨gb192, 2, none⟩ = some (.int .i64 a0_2) := (blk_cell BK192.out 2).trans rfl
      have hcz10_3 : w3.cell? ⟨gb192, 3, none⟩ = some (.int .i64 a0_3) := (blk_cell BK192.out 3).trans rfl
      have hcz10_4 : w3.cell? ⟨gb192, 4, none⟩ = some (.int .i64 a0_4) := (blk_cell BK192.out 4).trans rfl
      have hcz10_5 : w3.cell? ⟨gb192, 5, none⟩ = some (.int .i64 a0_5) := (blk_cell BK192.out 5).trans rfl
      have hcz10_6 : w3.cell? ⟨gb192, 6, none⟩ = some (.int .i64 a0_6) := (blk_cell BK192.out 6).trans rfl
      have hcz10_7 : w3.cell? ⟨gb192, 7, none⟩ = some (.int .i64 a0_7) := (blk_cell BK192.out 7).trans rfl
      have hcz10_8 : w3.cell? ⟨gb192, 8, none⟩ = some (.slice A0_8 l0_8.length c0_8) := (blk_cell BK192.out 8).trans rfl
      have hcz10_9 : w3.cell? ⟨gb192, 9, none⟩ = some (.slice A0_9 l0_9.length c0_9) := (blk_cell BK192.out 9).trans rfl
      have hfz10_0 := blk_frozen BK192.out 0
      have hfz10_1 := blk_frozen BK192.out 1
      have hfz10_2 := blk_frozen BK192.out 2
      have hfz10_3 := blk_frozen BK192.out 3
      have hfz10_4 := blk_frozen BK192.out 4
      have hfz10_5 := blk_frozen BK192.out 5
      have hfz10_6 := blk_frozen BK192.out 6
      have hfz10_7 := blk_frozen BK192.out 7
      have hfz10_8 := blk_frozen BK192.out 8
      have hfz10_9 := blk_frozen BK192.out 9
      have p193 : 0 ≤ (0 : Int) := (by omega)
      have q193 : 0 < (l0_9.length : Int) := of_decide_eq_true (by first | (with_reducible assumption) | assumption)
      obtain ⟨ad193, e193, hx193_0, hx193_1⟩ := at_T38 HR0_9.out 0 p193 q193
      cases e193
      have qi193 : (0 < l0_9.length) = True := eq_true (by omega)
      (try rw [show ((0 : Int)).toNat = 0 from rfl] at hx193_0)
      (try rw [show 0 * 2 = 0 from rfl] at hx193_0)
      (try rw [Addr.add_zero'] at hx193_0)
      (try rw [show ((0 : Int)).toNat = 0 from rfl] at hx193_1)
      (try rw [show 0 * 2 = 0 from rfl] at hx193_1)
      (try rw [Addr.add_zero'] at hx193_1)
      replace hx193_0 := (HB.out.cell (World.block_lt_of_cell? w _ hx193_0)).trans hx193_0
      replace hx193_1 := (HB.out.cell (World.block_lt_of_cell? w _ hx193_1)).trans hx193_1
      replace p193 := eq_true p193
      replace q193 := eq_true q193
      have p194 : 0 ≤ (0 : Int) := (by omega)
      have q194 : 0 < (l0_9.length : Int) := of_decide_eq_true (by first | (with_reducible assumption) | assumption)
      obtain ⟨ad194, e194, hx194_0, hx194_1⟩ := at_T38 HR0_9.out 0 p194 q194
      obtain rfl : ad193 = ad194 := (by injection e194)
      have qi194 : (0 < l0_9.length) = True := eq_true (by omega)
      (try rw [show ((0 : Int)).toNat = 0 from rfl] at hx194_0)
      (try rw [show 0 * 2 = 0 from rfl] at hx194_0)
      (try rw [Addr.add_zero'] at hx194_0)
      (try rw [show ((0 : Int)).toNat = 0 from rfl] at hx194_1)
      (try rw [show 0 * 2 = 0 from rfl] at hx194_1)
      (try rw [Addr.add_zero'] at hx194_1)
      replace hx194_0 := (HB.out.cell (World.block_lt_of_cell? w _ hx194_0)).trans hx194_0
      replace hx194_1 := (HB.out.cell (World.block_lt_of_cell? w _ hx194_1)).trans hx194_1
      replace p194 := eq_true p194
      replace q194 := eq_true q194
      go_wp2
      repeat (go_quiet (fail); try go_wp2)
      go_meet
      case rel => exact ⟨_, ((((rd_T38 l0_9 0).f0) != 5)), (by first | rfl | (simp; done) | (simp [*]; done)), H', ⟨by first | omega | exact Nat.le_refl _⟩, ⟨by (with_reducible repeat (first | refine blk_drewN ?_ _ | refine blk_drew ?_ | refine blk_alloc ?_ _)); exact BK192.out⟩, ⟨by repeat (first | (with_reducible first | exact HB.out | apply below_alloc | apply pw_below_drewN | apply below_drew1 | refine below_set ?_ GE192.out) | exact HB.out)⟩⟩
    ·rw [if_neg c7] at H
     exact absurd H (by simp)
  ·rw [if_neg c4] at H
   have c4b0 : ((l0_8.length : Int) == 2) = false := beq_eq_false_iff_ne.mpr c4
   have c4b1 : ((l0_8.length : Int) != 2) = true := bne_iff_ne.mpr c4
   (first | rw [c4b0] | (simp only [i64_w, i32_w]; rw [c4b0]) | skip)
   have H' := Aside0.mk H
   clear H
   have hcz11_0 : w3.cell? ⟨gb192, 0, none⟩ = some (.int .i64 a0_0) := (blk_cell BK192.out 0).trans rfl
   have hcz11_1 : w3.cell? ⟨gb192, 1, none⟩ = some (.int .i64 a0_1) := (blk_cell BK192.out 1).trans rfl
   have hcz11_2 : w3.cell? ⟨gb192, 2, none⟩ = some (.int .i64 a0_2) := (blk_cell BK192.out 2).trans rfl
   have hcz11_3 : w3.cell? ⟨gb192, 3, none⟩ = some (.int .i64 a0_3) := (blk_cell BK192.out 3).trans rfl
   have hcz11_4 : w3.cell? ⟨gb192, 4, none⟩ = some (.int .i64 a0_4) := (blk_cell BK192.out 4).trans rfl
   have hcz11_5 : w3.cell? ⟨gb192, 5, none⟩ = some (.int .i64 a0_5) := (blk_cell BK192.out 5).trans rfl
   have hcz11_6 : w3.cell? ⟨gb192, 6, none⟩ = some (.int .i64 a0_6) := (blk_cell BK192.out 6).trans rfl
   have hcz11_7 : w3.cell? ⟨gb192, 7, none⟩ = some (.int .i64 a0_7) := (blk_cell BK192.out 7).trans rfl
   have hcz11_8 : w3.cell? ⟨gb192, 8, none⟩ = some (.slice A0_8 l0_8.length c0_8) := (blk_cell BK192.out 8).trans rfl
   have hcz11_9 : w3.cell? ⟨gb192, 9, none⟩ = some (.slice A0_9 l0_9.length c0_9) := (blk_cell BK192.out 9).trans rfl
   have hfz11_0 := blk_frozen BK192.out 0
   have hfz11_1 := blk_frozen BK192.out 1
   have hfz11_2 := blk_frozen BK192.out 2
   have hfz11_3 := blk_frozen BK192.out 3
   have hfz11_4 := blk_frozen BK192.out 4
   have hfz11_5 := blk_frozen BK192.out 5
   have hfz11_6 := blk_frozen BK192.out 6
   have hfz11_7 := blk_frozen BK192.out 7
   have hfz11_8 := blk_frozen BK192.out 8
   have hfz11_9 := blk_frozen BK192.out 9
   go_wp2
   repeat (go_quiet (fail); try go_wp2)
   go_meet
   case rel => exact ⟨_, (true), (by first | rfl | (simp; done) | (simp [*]; done)), H', ⟨by first | omega | exact Nat.le_refl _⟩, ⟨by (with_reducible repeat (first | refine blk_drewN ?_ _ | refine blk_drew ?_ | refine blk_alloc ?_ _)); exact BK192.out⟩, ⟨by repeat (first | (with_reducible first | exact HB.out | apply below_alloc | apply pw_below_drewN | apply below_drew1 | refine below_set ?_ GE192.out) | exact HB.out)⟩⟩
 case rest =>
  clear HC2
  try clear p1
  try clear q1
  try clear hx1
  try clear qi1
  try clear p2
  try clear c4
  try clear c4b0
  try clear c4b1
  try clear c5
  try clear c5b0
  try clear c5b1
  try clear c5b2
  try clear c7
  try clear c7b0
  try clear c7b1
  try clear c8
  try clear c8b0
  try clear c8b1
  try clear hcz10_0
  try clear hcz10_1
  try clear hcz10_2
  try clear hcz10_3
  try clear hcz10_4
  try clear hcz10_5
  try clear hcz10_6
  try clear hcz10_7
  try clear hcz10_8
  try clear hcz10_9
  try clear hcz11_0
  try clear hcz11_1
  try clear hcz11_2
  try clear hcz11_3
  try clear hcz11_4
  try clear hcz11_5
  try clear hcz11_6
  try clear hcz11_7
  try clear hcz11_8
  try clear hcz11_9
  try clear hcz6_0
  try clear hcz6_1
  try clear hcz6_2
  try clear hcz6_3
  try clear hcz6_4
  try clear hcz6_5
  try clear hcz6_6
  try clear hcz6_7
  try clear hcz6_8
  try clear hcz6_9
  try clear hcz9_0
  try clear hcz9_1
  try clear hcz9_2
  try clear hcz9_3
  try clear hcz9_4
  try clear hcz9_5
  try clear hcz9_6
  try clear hcz9_7
  try clear hcz9_8
  try clear hcz9_9
  try clear hfz10_0
  try clear hfz10_1
  try clear hfz10_2
  try clear hfz10_3
  try clear hfz10_4
  try clear hfz10_5
  try clear hfz10_6
  try clear hfz10_7
  try clear hfz10_8
  try clear hfz10_9
  try clear hfz11_0
  try clear hfz11_1
  try clear hfz11_2
  try clear hfz11_3
  try clear hfz11_4
  try clear hfz11_5
  try clear hfz11_6
  try clear hfz11_7
  try clear hfz11_8
  try clear hfz11_9
  try clear hfz6_0
  try clear hfz6_1
  try clear hfz6_2
  try clear hfz6_3
  try clear hfz6_4
  try clear hfz6_5
  try clear hfz6_6
  try clear hfz6_7
  try clear hfz6_8
  try clear hfz6_9
  try clear hfz9_0
  try clear hfz9_1
  try clear hfz9_2
  try clear hfz9_3
  try clear hfz9_4
  try clear hfz9_5
  try clear hfz9_6
  try clear hfz9_7
  try clear hfz9_8
  try clear hfz9_9
  try clear hx193_0
  try clear hx193_1
  try clear hx194_0
  try clear hx194_1
  try clear p193
  try clear p194
  try clear q193
  try clear q194
  obtain ⟨kq, x30_1, rfl, HA, HJ1, BK192, HB⟩ := hcut
  cases kq with
  | zero => exact absurd HA.out (by simp [object_table.j0])
  | succ kj1 =>
   have H := HA.out
   clear HA
   simp only [object_table.j0] at H
   by_cases c12 : x30_1 = true
   ·subst c12
    have H1 : (some false) = some r := by rw [if_pos rfl] at H; exact H
    clear H
    have H := H1
    clear H1
    obtain rfl := Option.some.inj H
    go_wp2
    repeat (go_quiet (fail); try go_wp2)
    go_ret
    exact ⟨by first | rfl | (simp [errW_none, errW_some] <;> rfl) | (simp [*, errW_none, errW_some] <;> rfl), by repeat (first | (with_reducible first | exact HB.out | apply below_alloc | apply pw_below_drewN | apply below_drew1 | refine below_set ?_ GE192.out) | exact HB.out)⟩
   ·replace c12 := Bool.eq_false_iff.mpr c12
    subst c12
    have H1 : (if 0 < (l0_8.length : Int) then (if 1 < (l0_8.length : Int) then (if (rd l0_8 0) < 0 then (some false) else (if (rd l0_8 0) > 4096 then (some false) else (if (rd l0_8 1) < 0 then (some false) else (if (rd l0_8 1) > 4096 then (some false) else (if (Go.bits .and .i64 (rd l0_8 1) (wrap64 ((rd l0_8 1) - 1))) = 0 then (some ((l0_9.length : Int) == (wrap64 ((wrap64 (1 + (rd l0_8 0))) + (wrap64 (2 * (rd l0_8 1))))))) else (some false)))))) else (none)) else (none)) = some r := by rw [if_neg (show ¬ (false = true) by decide)] at H; exact H
    clear H
    have H := H1
    clear H1
    by_cases c13 : 0 < (l0_8.length : Int)
    ·rw [if_pos c13] at H
     have c13b0 : decide (0 < (l0_8.length : Int)) = true := decide_eq_true c13
     have c13b1 : decide (0 < l0_8.length) = true := decide_eq_true (by omega)
     clear c13
     by_cases c14 : 1 < (l0_8.length : Int)
     ·rw [if_pos c14] at H
      have c14b0 : decide (1 < (l0_8.length : Int)) = true := decide_eq_true c14
      have c14b1 : decide (1 < l0_8.length) = true := decide_eq_true (by omega)
      clear c14
      by_cases c15 : (rd l0_8 0) < 0
      ·rw [if_pos c15] at H
       have c15b0 : decide ((rd l0_8 0) < 0) = true := decide_eq_true c15
       clear c15
       obtain rfl := Option.some.inj H
       have hcz16_0 : wc.cell? ⟨gb192, 0, none⟩ = some (.int .i64 a0_0) := (blk_cell BK192.out 0).trans rfl
       have hcz16_1 : wc.cell? ⟨gb192, 1, none⟩ = some (.int .i64 a0_1) := (blk_cell BK192.out 1).trans rfl
       have hcz16_2 : wc.cell? ⟨gb192, 2, none⟩ = some (.int .i64 a0_2) := (blk_cell BK192.out 2).trans rfl
       have hcz16_3 : wc.cell? ⟨gb192, 3, none⟩ = some (.int .i64 a0_3) := (blk_cell BK192.out 3).trans rfl
       have hcz16_4 : wc.cell? ⟨gb192, 4, none⟩ = some (.int .i64 a0_4) := (blk_cell BK192.out 4).trans rfl
       have hcz16_5 : wc.cell? ⟨gb192, 5, none⟩ = some (.int .i64 a0_5) := (blk_cell BK192.out 5).trans rfl
       have hcz16_6 : wc.cell? ⟨gb192, 6, none⟩ = some (.int .i64 a0_6) := (blk_cell BK192.out 6).trans rfl
       have hcz16_7 : wc.cell? ⟨gb192, 7, none⟩ = some (.int .i64 a0_7) := (blk_cell BK192.out 7).trans rfl
       have hcz16_8 : wc.cell? ⟨gb192, 8, none⟩ = some (.slice A0_8 l0_8.length c0_8) := (blk_cell BK192.out 8).trans rfl
       have hcz16_9 : wc.cell? ⟨gb192, 9, none⟩ = some (.slice A0_9 l0_9.length c0_9) := (blk_cell BK192.out 9).trans rfl
       have hfz16_0 := blk_frozen BK192.out 0
       have hfz16_1 := blk_frozen BK192.out 1
       have hfz16_2 := blk_frozen BK192.out 2
       have hfz16_3 := blk_frozen BK192.out 3
       have hfz16_4 := blk_frozen BK192.out 4
       have hfz16_5 := blk_frozen BK192.out 5
       have hfz16_6 := blk_frozen BK192.out 6
       have hfz16_7 := blk_frozen BK192.out 7
       have hfz16_8 := blk_frozen BK192.out 8
       have hfz16_9 := blk_frozen BK192.out 9
       have p195 : 0 ≤ (0 : Int) := (by omega)
       have q195 : 0 < (l0_8.length : Int) := of_decide_eq_true (by first | (with_reducible assumption) | assumption)
       obtain ⟨ad195, e195, hx195_0⟩ := Kd.at_int HR0_8.out 0 p195 q195
       cases e195
       have qi195 : (0 < l0_8.length) = True := eq_true (by omega)
       (try rw [show ((0 : Int)).toNat = 0 from rfl] at hx195_0)
       (try rw [Addr.add_zero'] at hx195_0)
       replace hx195_0 := (HB.out.cell (World.block_lt_of_cell? w _ hx195_0)).trans hx195_0
       replace p195 := eq_true p195
       replace q195 := eq_true q195
       have p196 : 0 ≤ (1 : Int) := (by omega)
       have q196 : 1 < (l0_8.length : Int) := of_decide_eq_true (by first | (with_reducible assumption) | assumption)
       obtain ⟨ad196, e196, hx196_0⟩ := Kd.at_int HR0_8.out 1 p196 q196
       obtain rfl : ad195 = ad196 := (by injection e196)
       (try simp only [show (1 : Int).toNat = 1 from rfl, Nat.reduceMul, Nat.reduceEqDiff, Go.Addr.add, ↓reduceIte] at hx196_0)
       have qi196 : (1 < l0_8.length) = True := eq_true (by omega)
       (try rw [show ((1 : Int)).toNat = 1 from rfl] at hx196_0)
       replace hx196_0 := (HB.out.cell (World.block_lt_of_cell? w _ hx196_0)).trans hx196_0
       replace p196 := eq_true p196
       replace q196 := eq_true q196
       go_wp2
       repeat (go_quiet (fail); try go_wp2)
       go_ret
       exact ⟨by first | rfl | (simp [errW_none, errW_some] <;> rfl) | (simp [*, errW_none, errW_some] <;> rfl), by repeat (first | (with_reducible first | exact HB.out | apply below_alloc | apply pw_below_drewN | apply below_drew1 | refine below_set ?_ GE192.out) | exact HB.out)⟩
      ·rw [if_neg c15] at H
       have c15b0 : decide ((rd l0_8 0) < 0) = false := decide_eq_false c15
       clear c15
       by_cases c17 : (rd l0_8 0) > 4096
       ·rw [if_pos c17] at H
        have c17b0 : decide (4096 < (rd l0_8 0)) = true := decide_eq_true c17
        clear c17
        obtain rfl := Option.some.inj H
        have hcz18_0 : wc.cell? ⟨gb192, 0, none⟩ = some (.int .i64 a0_0) := (blk_cell BK192.out 0).trans rfl
        have hcz18_1 : wc.cell? ⟨gb192, 1, none⟩ = some (.int .i64 a0_1) := (blk_cell BK192.out 1).trans rfl
        have hcz18_2 : wc.cell? ⟨gb192, 2, none⟩ = some (.int .i64 a0_2) := (blk_cell BK192.out 2).trans rfl
        have hcz18_3 : wc.cell? ⟨gb192, 3, none⟩ = some (.int .i64 a0_3) := (blk_cell BK192.out 3).trans rfl
        have hcz18_4 : wc.cell? ⟨gb192, 4, none⟩ = some (.int .i64 a0_4) := (blk_cell BK192.out 4).trans rfl
        have hcz18_5 : wc.cell? ⟨gb192, 5, none⟩ = some (.int .i64 a0_5) := (blk_cell BK192.out 5).trans rfl
        have hcz18_6 : wc.cell? ⟨gb192, 6, none⟩ = some (.int .i64 a0_6) := (blk_cell BK192.out 6).trans rfl
        have hcz18_7 : wc.cell? ⟨gb192, 7, none⟩ = some (.int .i64 a0_7) := (blk_cell BK192.out 7).trans rfl
        have hcz18_8 : wc.cell? ⟨gb192, 8, none⟩ = some (.slice A0_8 l0_8.length c0_8) := (blk_cell BK192.out 8).trans rfl
        have hcz18_9 : wc.cell? ⟨gb192, 9, none⟩ = some (.slice A0_9 l0_9.length c0_9) := (blk_cell BK192.out 9).trans rfl
        have hfz18_0 := blk_frozen BK192.out 0
        have hfz18_1 := blk_frozen BK192.out 1
        have hfz18_2 := blk_frozen BK192.out 2
        have hfz18_3 := blk_frozen BK192.out 3
        have hfz18_4 := blk_frozen BK192.out 4
        have hfz18_5 := blk_frozen BK192.out 5
        have hfz18_6 := blk_frozen BK192.out 6
        have hfz18_7 := blk_frozen BK192.out 7
        have hfz18_8 := blk_frozen BK192.out 8
        have hfz18_9 := blk_frozen BK192.out 9
        have p195 : 0 ≤ (0 : Int) := (by omega)
        have q195 : 0 < (l0_8.length : Int) := of_decide_eq_true (by first | (with_reducible assumption) | assumption)
        obtain ⟨ad195, e195, hx195_0⟩ := Kd.at_int HR0_8.out 0 p195 q195
        cases e195
        have qi195 : (0 < l0_8.length) = True := eq_true (by omega)
        (try rw [show ((0 : Int)).toNat = 0 from rfl] at hx195_0)
        (try rw [Addr.add_zero'] at hx195_0)
        replace hx195_0 := (HB.out.cell (World.block_lt_of_cell? w _ hx195_0)).trans hx195_0
        replace p195 := eq_true p195
        replace q195 := eq_true q195
        have p196 : 0 ≤ (1 : Int) := (by omega)
        have q196 : 1 < (l0_8.length : Int) := of_decide_eq_true (by first | (with_reducible assumption) | assumption)
        obtain ⟨ad196, e196, hx196_0⟩ := Kd.at_int HR0_8.out 1 p196 q196
        obtain rfl : ad195 = ad196 := (by injection e196)
        (try simp only [show (1 : Int).toNat = 1 from rfl, Nat.reduceMul, Nat.reduceEqDiff, Go.Addr.add, ↓reduceIte] at hx196_0)
        have qi196 : (1 < l0_8.length) = True := eq_true (by omega)
        (try rw [show ((1 : Int)).toNat = 1 from rfl] at hx196_0)
        replace hx196_0 := (HB.out.cell (World.block_lt_of_cell? w _ hx196_0)).trans hx196_0
        replace p196 := eq_true p196
        replace q196 := eq_true q196
        go_wp2
        repeat (go_quiet (fail); try go_wp2)
        go_ret
        exact ⟨by first | rfl | (simp [errW_none, errW_some] <;> rfl) | (simp [*, errW_none, errW_some] <;> rfl), by repeat (first | (with_reducible first | exact HB.out | apply below_alloc | apply pw_below_drewN | apply below_drew1 | refine below_set ?_ GE192.out) | exact HB.out)⟩
       ·rw [if_neg c17] at H
        have c17b0 : decide (4096 < (rd l0_8 0)) = false := decide_eq_false c17
        clear c17
        by_cases c19 : (rd l0_8 1) < 0
        ·rw [if_pos c19] at H
         have c19b0 : decide ((rd l0_8 1) < 0) = true := decide_eq_true c19
         clear c19
         obtain rfl := Option.some.inj H
         have hcz20_0 : wc.cell? ⟨gb192, 0, none⟩ = some (.int .i64 a0_0) := (blk_cell BK192.out 0).trans rfl
         have hcz20_1 : wc.cell? ⟨gb192, 1, none⟩ = some (.int .i64 a0_1) := (blk_cell BK192.out 1).trans rfl
         have hcz20_2 : wc.cell? ⟨gb192, 2, none⟩ = some (.int .i64 a0_2) := (blk_cell BK192.out 2).trans rfl
         have hcz20_3 : wc.cell? ⟨gb192, 3, none⟩ = some (.int .i64 a0_3) := (blk_cell BK192.out 3).trans rfl
         have hcz20_4 : wc.cell? ⟨gb192, 4, none⟩ = some (.int .i64 a0_4) := (blk_cell BK192.out 4).trans rfl
         have hcz20_5 : wc.cell? ⟨gb192, 5, none⟩ = some (.int .i64 a0_5) := (blk_cell BK192.out 5).trans rfl
         have hcz20_6 : wc.cell? ⟨gb192, 6, none⟩ = some (.int .i64 a0_6) := (blk_cell BK192.out 6).trans rfl
         have hcz20_7 : wc.cell? ⟨gb192, 7, none⟩ = some (.int .i64 a0_7) := (blk_cell BK192.out 7).trans rfl
         have hcz20_8 : wc.cell? ⟨gb192, 8, none⟩ = some (.slice A0_8 l0_8.length c0_8) := (blk_cell BK192.out 8).trans rfl
         have hcz20_9 : wc.cell? ⟨gb192, 9, none⟩ = some (.slice A0_9 l0_9.length c0_9) := (blk_cell BK192.out 9).trans rfl
         have hfz20_0 := blk_frozen BK192.out 0
         have hfz20_1 := blk_frozen BK192.out 1
         have hfz20_2 := blk_frozen BK192.out 2
         have hfz20_3 := blk_frozen BK192.out 3
         have hfz20_4 := blk_frozen BK192.out 4
         have hfz20_5 := blk_frozen BK192.out 5
         have hfz20_6 := blk_frozen BK192.out 6
         have hfz20_7 := blk_frozen BK192.out 7
         have hfz20_8 := blk_frozen BK192.out 8
         have hfz20_9 := blk_frozen BK192.out 9
         have p195 : 0 ≤ (0 : Int) := (by omega)
         have q195 : 0 < (l0_8.length : Int) := of_decide_eq_true (by first | (with_reducible assumption) | assumption)
         obtain ⟨ad195, e195, hx195_0⟩ := Kd.at_int HR0_8.out 0 p195 q195
         cases e195
         have qi195 : (0 < l0_8.length) = True := eq_true (by omega)
         (try rw [show ((0 : Int)).toNat = 0 from rfl] at hx195_0)
         (try rw [Addr.add_zero'] at hx195_0)
         replace hx195_0 := (HB.out.cell (World.block_lt_of_cell? w _ hx195_0)).trans hx195_0
         replace p195 := eq_true p195
         replace q195 := eq_true q195
         have p196 : 0 ≤ (1 : Int) := (by omega)
         have q196 : 1 < (l0_8.length : Int) := of_decide_eq_true (by first | (with_reducible assumption) | assumption)
         obtain ⟨ad196, e196, hx196_0⟩ := Kd.at_int HR0_8.out 1 p196 q196
         obtain rfl : ad195 = ad196 := (by injection e196)
         (try simp only [show (1 : Int).toNat = 1 from rfl, Nat.reduceMul, Nat.reduceEqDiff, Go.Addr.add, ↓reduceIte] at hx196_0)
         have qi196 : (1 < l0_8.length) = True := eq_true (by omega)
         (try rw [show ((1 : Int)).toNat = 1 from rfl] at hx196_0)
         replace hx196_0 := (HB.out.cell (World.block_lt_of_cell? w _ hx196_0)).trans hx196_0
         replace p196 := eq_true p196
         replace q196 := eq_true q196
         go_wp2
         repeat (go_quiet (fail); try go_wp2)
         go_ret
         exact ⟨by first | rfl | (simp [errW_none, errW_some] <;> rfl) | (simp [*, errW_none, errW_some] <;> rfl), by repeat (first | (with_reducible first | exact HB.out | apply below_alloc | apply pw_below_drewN | apply below_drew1 | refine below_set ?_ GE192.out) | exact HB.out)⟩
        ·rw [if_neg c19] at H
         have c19b0 : decide ((rd l0_8 1) < 0) = false := decide_eq_false c19
         clear c19
         by_cases c21 : (rd l0_8 1) > 4096
         ·rw [if_pos c21] at H
          have c21b0 : decide (4096 < (rd l0_8 1)) = true := decide_eq_true c21
          clear c21
          obtain rfl := Option.some.inj H
          have hcz22_0 : wc.cell? ⟨gb192, 0, none⟩ = some (.int .i64 a0_0) := (blk_cell BK192.out 0).trans rfl
          have hcz22_1 : wc.cell? ⟨gb192, 1, none⟩ = some (.int .i64 a0_1) := (blk_cell BK192.out 1).trans rfl
          have hcz22_2 : wc.cell? ⟨gb192, 2, none⟩ = some (.int .i64 a0_2) := (blk_cell BK192.out 2).trans rfl
          have hcz22_3 : wc.cell? ⟨gb192, 3, none⟩ = some (.int .i64 a0_3) := (blk_cell BK192.out 3).trans rfl
          have hcz22_4 : wc.cell? ⟨gb192, 4, none⟩ = some (.int .i64 a0_4) := (blk_cell BK192.out 4).trans rfl
          have hcz22_5 : wc.cell? ⟨gb192, 5, none⟩ = some (.int .i64 a0_5) := (blk_cell BK192.out 5).trans rfl
          have hcz22_6 : wc.cell? ⟨gb192, 6, none⟩ = some (.int .i64 a0_6) := (blk_cell BK192.out 6).trans rfl
          have hcz22_7 : wc.cell? ⟨gb192, 7, none⟩ = some (.int .i64 a0_7) := (blk_cell BK192.out 7).trans rfl
          have hcz22_8 : wc.cell? ⟨gb192, 8, none⟩ = some (.slice A0_8 l0_8.length c0_8) := (blk_cell BK192.out 8).trans rfl
          have hcz22_9 : wc.cell? ⟨gb192, 9, none⟩ = some (.slice A0_9 l0_9.length c0_9) := (blk_cell BK192.out 9).trans rfl
          have hfz22_0 := blk_frozen BK192.out 0
          have hfz22_1 := blk_frozen BK192.out 1
          have hfz22_2 := blk_frozen BK192.out 2
          have hfz22_3 := blk_frozen BK192.out 3
          have hfz22_4 := blk_frozen BK192.out 4
          have hfz22_5 := blk_frozen BK192.out 5
          have hfz22_6 := blk_frozen BK192.out 6
          have hfz22_7 := blk_frozen BK192.out 7
          have hfz22_8 := blk_frozen BK192.out 8
          have hfz22_9 := blk_frozen BK192.out 9
          have p195 : 0 ≤ (0 : Int) := (by omega)
          have q195 : 0 < (l0_8.length : Int) := of_decide_eq_true (by first | (with_reducible assumption) | assumption)
          obtain ⟨ad195, e195, hx195_0⟩ := Kd.at_int HR0_8.out 0 p195 q195
          cases e195
          have qi195 : (0 < l0_8.length) = True := eq_true (by omega)
          (try rw [show ((0 : Int)).toNat = 0 from rfl] at hx195_0)
          (try rw [Addr.add_zero'] at hx195_0)
          replace hx195_0 := (HB.out.cell (World.block_lt_of_cell? w _ hx195_0)).trans hx195_0
          replace p195 := eq_true p195
          replace q195 := eq_true q195
          have p196 : 0 ≤ (1 : Int) := (by omega)
          have q196 : 1 < (l0_8.length : Int) := of_decide_eq_true (by first | (with_reducible assumption) | assumption)
          obtain ⟨ad196, e196, hx196_0⟩ := Kd.at_int HR0_8.out 1 p196 q196
          obtain rfl : ad195 = ad196 := (by injection e196)
          (try simp only [show (1 : Int).toNat = 1 from rfl, Nat.reduceMul, Nat.reduceEqDiff, Go.Addr.add, ↓reduceIte] at hx196_0)
          have qi196 : (1 < l0_8.length) = True := eq_true (by omega)
          (try rw [show ((1 : Int)).toNat = 1 from rfl] at hx196_0)
          replace hx196_0 := (HB.out.cell (World.block_lt_of_cell? w _ hx196_0)).trans hx196_0
          replace p196 := eq_true p196
          replace q196 := eq_true q196
          go_wp2
          repeat (go_quiet (fail); try go_wp2)
          go_ret
          exact ⟨by first | rfl | (simp [errW_none, errW_some] <;> rfl) | (simp [*, errW_none, errW_some] <;> rfl), by repeat (first | (with_reducible first | exact HB.out | apply below_alloc | apply pw_below_drewN | apply below_drew1 | refine below_set ?_ GE192.out) | exact HB.out)⟩
         ·rw [if_neg c21] at H
          have c21b0 : decide (4096 < (rd l0_8 1)) = false := decide_eq_false c21
          clear c21
          by_cases c23 : (Go.bits .and .i64 (rd l0_8 1) (wrap64 ((rd l0_8 1) - 1))) = 0
          ·rw [if_pos c23] at H
           have c23b0 : ((Go.bits .and .i64 (rd l0_8 1) (wrap64 ((rd l0_8 1) - 1))) == 0) = true := beq_iff_eq.mpr c23
           have c23b1 : ((Go.bits .and .i64 (rd l0_8 1) (wrap64 ((rd l0_8 1) - 1))) != 0) = false := bne_eq_false_iff_eq.mpr c23
           clear c23
           obtain rfl := Option.some.inj H
           have hcz24_0 : wc.cell? ⟨gb192, 0, none⟩ = some (.int .i64 a0_0) := (blk_cell BK192.out 0).trans rfl
           have hcz24_1 : wc.cell? ⟨gb192, 1, none⟩ = some (.int .i64 a0_1) := (blk_cell BK192.out 1).trans rfl
           have hcz24_2 : wc.cell? ⟨gb192, 2, none⟩ = some (.int .i64 a0_2) := (blk_cell BK192.out 2).trans rfl
           have hcz24_3 : wc.cell? ⟨gb192, 3, none⟩ = some (.int .i64 a0_3) := (blk_cell BK192.out 3).trans rfl
           have hcz24_4 : wc.cell? ⟨gb192, 4, none⟩ = some (.int .i64 a0_4) := (blk_cell BK192.out 4).trans rfl
           have hcz24_5 : wc.cell? ⟨gb192, 5, none⟩ = some (.int .i64 a0_5) := (blk_cell BK192.out 5).trans rfl
           have hcz24_6 : wc.cell? ⟨gb192, 6, none⟩ = some (.int .i64 a0_6) := (blk_cell BK192.out 6).trans rfl
           have hcz24_7 : wc.cell? ⟨gb192, 7, none⟩ = some (.int .i64 a0_7) := (blk_cell BK192.out 7).trans rfl
           have hcz24_8 : wc.cell? ⟨gb192, 8, none⟩ = some (.slice A0_8 l0_8.length c0_8) := (blk_cell BK192.out 8).trans rfl
           have hcz24_9 : wc.cell? ⟨gb192, 9, none⟩ = some (.slice A0_9 l0_9.length c0_9) := (blk_cell BK192.out 9).trans rfl
           have hfz24_0 := blk_frozen BK192.out 0
           have hfz24_1 := blk_frozen BK192.out 1
           have hfz24_2 := blk_frozen BK192.out 2
           have hfz24_3 := blk_frozen BK192.out 3
           have hfz24_4 := blk_frozen BK192.out 4
           have hfz24_5 := blk_frozen BK192.out 5
           have hfz24_6 := blk_frozen BK192.out 6
           have hfz24_7 := blk_frozen BK192.out 7
           have hfz24_8 := blk_frozen BK192.out 8
           have hfz24_9 := blk_frozen BK192.out 9
           have p195 : 0 ≤ (0 : Int) := (by omega)
           have q195 : 0 < (l0_8.length : Int) := of_decide_eq_true (by first | (with_reducible assumption) | assumption)
           obtain ⟨ad195, e195, hx195_0⟩ := Kd.at_int HR0_8.out 0 p195 q195
           cases e195
           have qi195 : (0 < l0_8.length) = True := eq_true (by omega)
           (try rw [show ((0 : Int)).toNat = 0 from rfl] at hx195_0)
           (try rw [Addr.add_zero'] at hx195_0)
           replace hx195_0 := (HB.out.cell (World.block_lt_of_cell? w _ hx195_0)).trans hx195_0
           replace p195 := eq_true p195
           replace q195 := eq_true q195
           have p196 : 0 ≤ (1 : Int) := (by omega)
           have q196 : 1 < (l0_8.length : Int) := of_decide_eq_true (by first | (with_reducible assumption) | assumption)
           obtain ⟨ad196, e196, hx196_0⟩ := Kd.at_int HR0_8.out 1 p196 q196
           obtain rfl : ad195 = ad196 := (by injection e196)
           (try simp only [show (1 : Int).toNat = 1 from rfl, Nat.reduceMul, Nat.reduceEqDiff, Go.Addr.add, ↓reduceIte] at hx196_0)
           have qi196 : (1 < l0_8.length) = True := eq_true (by omega)
           (try rw [show ((1 : Int)).toNat = 1 from rfl] at hx196_0)
           replace hx196_0 := (HB.out.cell (World.block_lt_of_cell? w _ hx196_0)).trans hx196_0
           replace p196 := eq_true p196
           replace q196 := eq_true q196
           go_wp2
           repeat (go_quiet (fail); try go_wp2)
           go_ret
           exact ⟨by first | rfl | (simp [errW_none, errW_some] <;> rfl) | (simp [*, errW_none, errW_some] <;> rfl), by repeat (first | (with_reducible first | exact HB.out | apply below_alloc | apply pw_below_drewN | apply below_drew1 | refine below_set ?_ GE192.out) | exact HB.out)⟩
          ·rw [if_neg c23] at H
           have c23b0 : ((Go.bits .and .i64 (rd l0_8 1) (wrap64 ((rd l0_8 1) - 1))) == 0) = false := beq_eq_false_iff_ne.mpr c23
           have c23b1 : ((Go.bits .and .i64 (rd l0_8 1) (wrap64 ((rd l0_8 1) - 1))) != 0) = true := bne_iff_ne.mpr c23
           obtain rfl := Option.some.inj H
           have hcz25_0 : wc.cell? ⟨gb192, 0, none⟩ = some (.int .i64 a0_0) := (blk_cell BK192.out 0).trans rfl
           have hcz25_1 : wc.cell? ⟨gb192, 1, none⟩ = some (.int .i64 a0_1) := (blk_cell BK192.out 1).trans rfl
           have hcz25_2 : wc.cell? ⟨gb192, 2, none⟩ = some (.int .i64 a0_2) := (blk_cell BK192.out 2).trans rfl
           have hcz25_3 : wc.cell? ⟨gb192, 3, none⟩ = some (.int .i64 a0_3) := (blk_cell BK192.out 3).trans rfl
           have hcz25_4 : wc.cell? ⟨gb192, 4, none⟩ = some (.int .i64 a0_4) := (blk_cell BK192.out 4).trans rfl
           have hcz25_5 : wc.cell? ⟨gb192, 5, none⟩ = some (.int .i64 a0_5) := (blk_cell BK192.out 5).trans rfl
           have hcz25_6 : wc.cell? ⟨gb192, 6, none⟩ = some (.int .i64 a0_6) := (blk_cell BK192.out 6).trans rfl
           have hcz25_7 : wc.cell? ⟨gb192, 7, none⟩ = some (.int .i64 a0_7) := (blk_cell BK192.out 7).trans rfl
           have hcz25_8 : wc.cell? ⟨gb192, 8, none⟩ = some (.slice A0_8 l0_8.length c0_8) := (blk_cell BK192.out 8).trans rfl
           have hcz25_9 : wc.cell? ⟨gb192, 9, none⟩ = some (.slice A0_9 l0_9.length c0_9) := (blk_cell BK192.out 9).trans rfl
           have hfz25_0 := blk_frozen BK192.out 0
           have hfz25_1 := blk_frozen BK192.out 1
           have hfz25_2 := blk_frozen BK192.out 2
           have hfz25_3 := blk_frozen BK192.out 3
           have hfz25_4 := blk_frozen BK192.out 4
           have hfz25_5 := blk_frozen BK192.out 5
           have hfz25_6 := blk_frozen BK192.out 6
           have hfz25_7 := blk_frozen BK192.out 7
           have hfz25_8 := blk_frozen BK192.out 8
           have hfz25_9 := blk_frozen BK192.out 9
           have p195 : 0 ≤ (0 : Int) := (by omega)
           have q195 : 0 < (l0_8.length : Int) := of_decide_eq_true (by first | (with_reducible assumption) | assumption)
           obtain ⟨ad195, e195, hx195_0⟩ := Kd.at_int HR0_8.out 0 p195 q195
           cases e195
           have qi195 : (0 < l0_8.length) = True := eq_true (by omega)
           (try rw [show ((0 : Int)).toNat = 0 from rfl] at hx195_0)
           (try rw [Addr.add_zero'] at hx195_0)
           replace hx195_0 := (HB.out.cell (World.block_lt_of_cell? w _ hx195_0)).trans hx195_0
           replace p195 := eq_true p195
           replace q195 := eq_true q195
           have p196 : 0 ≤ (1 : Int) := (by omega)
           have q196 : 1 < (l0_8.length : Int) := of_decide_eq_true (by first | (with_reducible assumption) | assumption)
           obtain ⟨ad196, e196, hx196_0⟩ := Kd.at_int HR0_8.out 1 p196 q196
           obtain rfl : ad195 = ad196 := (by injection e196)
           (try simp only [show (1 : Int).toNat = 1 from rfl, Nat.reduceMul, Nat.reduceEqDiff, Go.Addr.add, ↓reduceIte] at hx196_0)
           have qi196 : (1 < l0_8.length) = True := eq_true (by omega)
           (try rw [show ((1 : Int)).toNat = 1 from rfl] at hx196_0)
           replace hx196_0 := (HB.out.cell (World.block_lt_of_cell? w _ hx196_0)).trans hx196_0
           replace p196 := eq_true p196
           replace q196 := eq_true q196
           go_wp2
           repeat (go_quiet (fail); try go_wp2)
           go_ret
           exact ⟨by first | rfl | (simp [errW_none, errW_some] <;> rfl) | (simp [*, errW_none, errW_some] <;> rfl), by repeat (first | (with_reducible first | exact HB.out | apply below_alloc | apply pw_below_drewN | apply below_drew1 | refine below_set ?_ GE192.out) | exact HB.out)⟩
     ·rw [if_neg c14] at H
      exact absurd H (by simp)
    ·rw [if_neg c13] at H
     exact absurd H (by simp)

end Go.Proofs.Ytepoalgoombpeaa.Print
