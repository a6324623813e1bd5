/- PROVED: what Chain answers. Conditions: those each theorem states. -/
import Derived.Test.YtonjhnglcffihaaTabMade
set_option linter.unusedVariables false
set_option linter.unusedSimpArgs false
namespace Go.Proofs.Ytonjhnglcffihaa.Tab
open Go Go.RowKit Go.Proofs.Ytonjhnglcffihaa.Print Go.Proofs.YtonjhnglcffihaaW.PrintWords Go.Proofs.YtonjhnglcffihaaW.PrintLast Go.Proofs.YtonjhnglcffihaaW.PrintMore
theorem info3 : (Try.prog.info? 3).map (fun i => (i.zero, i.size, i.bytes)) = some (some (.int .i64 0), 1, 8) := by kernel_rfl
def intsV (l : List Int) : List Value := l.map fun x => .int .i64 x
theorem ints_C {w : World} {base : Nat} {v : Value} {l : List Int} (h : w.ownsRow base 3 1 v l.length (intsV l)) : ∃ A cap, v = .slice A l.length cap ∧ Kd.C (Kd.int .i64) w A l.length l ∧ l.length ≤ cap := by
  rcases h.2 with ⟨rfl, h0⟩ | ⟨g, cap, cur, rfl, hb, hg, h1, h2, h3, h4⟩
  · have : l = [] := List.eq_nil_of_length_eq_zero h0
    subst this
    exact ⟨none, 0, rfl, ⟨rfl, by simp, fun h => absurd h (by simp)⟩, Nat.le_refl _⟩
  · refine ⟨_, cap, rfl, ?_, h1⟩
    refine Kd.C_of_reads (d := (0 : Int)) (h1 := fun _ => rfl) ⟨rfl, by simp only [maxLen] at h2; omega, fun _ => ⟨_, rfl, fun j hj => ?_⟩⟩
    have hadd : (⟨g, 0, none⟩ : Addr).add j = ⟨g, j, none⟩ := by unfold Addr.add; split <;> simp_all
    rw [hadd, cell_of_row w g j cur 3 (0, 0) hg]
    have e : (intsV l)[j]? = some (.int .i64 (l.getD j 0)) := by
      unfold intsV
      rw [List.getElem?_map, List.getElem?_eq_getElem hj]
      simp [List.getD, List.getElem?_eq_getElem hj]
    rw [← h4, List.getElem?_take_of_lt (by omega)] at e
    simpa using e
def St.told (st : St) (b : Nat) : List Int := ((st.chain b).map En.h).reverse
def toldFrom (c : List En) (p : Nat) : List Int := ((c.drop p).map En.h).reverse
theorem toldFrom_length (c : List En) (p : Nat) : (toldFrom c p).length = c.length - p := by simp [toldFrom]
theorem toldFrom_step (c : List En) (p : Nat) (x : En) (h : c[p]? = some x) : toldFrom c p = toldFrom c (p + 1) ++ [x.h] := by
  obtain ⟨hl, e⟩ := List.getElem?_eq_some_iff.1 h
  unfold toldFrom
  rw [List.drop_eq_getElem_cons hl, e]
  simp
theorem Tab.chain_out {w : World} {S : Nat → Prop} {B : Nat} {st : St} (h : Tab w S B st) (x : Int) (hx : x < 0 ∨ (st.n : Int) ≤ x) :
    Calls Try.prog 28 #[.pointer (some ⟨B, 0, none⟩), .int .i64 x] w fun e w' => e = .returned (.slice none 0 0) ∧ w' = w := by
  obtain ⟨o, A, bm, vs, cap, D, h⟩ := h
  obtain ⟨c0, c1, c2, cf⟩ := h.cells
  by_cases h0 : x < 0
  · go_enter Try.func28, Try.ntmps28
    go_wp2_with (go_at_call 31; refine (made_cells _ B bm c1).mono ?_; rintro e w1 ⟨rfl, rfl⟩)
    go_ret
    exact ⟨rfl, rfl⟩
  · have h1 : x ≥ (st.n : Int) := by omega
    go_enter Try.func28, Try.ntmps28
    go_wp2_with (go_at_call 31; refine (made_cells _ B bm c1).mono ?_; rintro e w1 ⟨rfl, rfl⟩)
    go_ret
    exact ⟨rfl, rfl⟩
set_option maxHeartbeats 4000000 in
set_option maxRecDepth 100000 in
theorem Tab.chain_in {w : World} {S : Nat → Prop} {B : Nat} {st : St} (h : Tab w S B st) (b : Nat) (hb : b < st.n) :
    Calls Try.prog 28 #[.pointer (some ⟨B, 0, none⟩), .int .i64 (b : Int)] w fun e w' => ∃ A cap, e = .returned (.slice A (st.told b).length cap) ∧ Kd.C (Kd.int .i64) w' A (st.told b).length (st.told b) ∧ (st.told b).length ≤ cap ∧ Below w.heap.size w w' := by
  obtain ⟨o, A, bm, vs, cap, D, h⟩ := h
  obtain ⟨c0, c1, c2, cf⟩ := h.cells
  have hb0 : ¬ ((b : Int) < 0) := by omega
  have hb1 : ¬ ((b : Int) ≥ (st.n : Int)) := by omega
  have hb2 : (0 : Int) ≤ (b : Int) := by omega
  have hb3 : (b : Int) < (st.n : Int) := by omega
  have hcell := h.ch.cell hb
  obtain ⟨p0, cp, hv, hx⟩ := ownsRow_val (h.row _ hb)
  rw [hv] at hcell
  have HX := Aside0.mk hx
  have HCL : Aside0 ((st.chain b).length ≤ 1000) := ⟨Nat.le_trans (List.length_filter_le _ _) (Nat.le_trans o.many o.q)⟩
  have HW := Aside0.mk h
  clear hx hv h
  unfold St.told
  generalize hc : st.chain b = c at hcell HX HCL ⊢
  clear hc
  have hwl : Aside0 (wrap64 ((c.length : Int) - 1) = (c.length : Int) - 1) := ⟨by have := HCL.out; unfold wrap64; omega⟩
  have HN0 : Aside0 (w.ownsRow w.heap.size 3 1 (.slice none 0 0) (c.length - c.length) (intsV (toldFrom c c.length))) := ⟨by
    rw [Nat.sub_self, show toldFrom c c.length = [] by simp [toldFrom]]
    exact World.ownsRow_nil _ _ _ _⟩
  have hw' := hwl.out
  go_enter Try.func28, Try.ntmps28
  go_wp2_with (go_at_call 31; refine (made_cells _ B bm c1).mono ?_; rintro e w1 ⟨rfl, hw1⟩; have hw1 := hw1.symm; subst hw1)
  go_loopw [5, 6] (fun v i wr => ∃ p : Nat, p ≤ c.length ∧ i = .int .i64 ((p : Int) - 1) ∧ Aside0 (wr.ownsRow w.heap.size 3 1 v (c.length - p) (intsV (toldFrom c p))) ∧ Aside0 (Below w.heap.size w wr)) (fun _ i _ => (intOf i + 1).toNat)
  case atStart => exact ⟨c.length, Nat.le_refl _, by first | rfl | rw [hwl.out], HN0, ⟨Below.refl _ _⟩⟩
  case round =>
    obtain ⟨p, hp, rfl, HO, HB⟩ := hrel
    clear hw'
    cases p with
    | zero =>
      have hn1 : ¬ (((0 : Nat) : Int) - 1 ≥ 0) := by decide
      go_wp2
      go_ret
      have e : toldFrom c 0 = (c.map En.h).reverse := by simp [toldFrom]
      have HO2 := HO.out
      rw [Nat.sub_zero, show c.length = (toldFrom c 0).length by rw [toldFrom_length]; omega, e] at HO2
      obtain ⟨A1, cap1, e1, e2, e3⟩ := ints_C HO2
      have el : ((c.map En.h).reverse).length = c.length := by simp
      rw [el] at e1 e2 e3
      exact ⟨A1, cap1, congrArg Ending.returned e1, e2, e3, HB.out⟩
    | succ r =>
      obtain ⟨x, hxr⟩ : ∃ x, c[r]? = some x := ⟨_, List.getElem?_eq_getElem (by omega)⟩
      obtain ⟨g, rfl, _, x0, x1, x2⟩ := HX.out r x hxr
      have HXR := Aside0.mk (toldFrom_step c r x hxr)
      replace x1 := (HB.out.cell (World.block_lt_of_cell? w _ x1)).trans x1
      have c0r := (HB.out.cell (p := ⟨B, 0, none⟩) (World.block_lt_of_cell? w _ c0)).trans c0
      have hcr := (HB.out.cell (p := ⟨A, b, none⟩) (World.block_lt_of_cell? w _ hcell)).trans hcell
      clear x0 x2 hxr
      have er : (((r + 1 : Nat) : Int) - 1) = (r : Int) := by omega
      rw [er]
      have hr0 : (r : Int) ≥ 0 := by omega
      have hr1 : (0 : Int) ≤ (r : Int) := by omega
      have hr2 : (r : Int) < (c.length : Int) := by omega
      obtain ⟨i0, hi0, hz0, hz1, hz2⟩ := info_parts info3
      have hl1 : c.length - (r + 1) + 1 ≤ maxLen := by have := HCL.out; unfold maxLen; omega
      have hl2 : (c.length - (r + 1) + 1) * 8 ≤ 140737488355328 := by have := HCL.out; omega
      have HZ : Aside0 (w.heap.size ≤ wr.heap.size) := ⟨HB.out.size⟩
      have hl3 : ∀ o, w.heap.size ≤ (wr.alloc o).heap.size := fun o => by have := HZ.out; simp; omega
      have HWR : Aside0 (wrap64 ((r : Int) - 1) = (r : Int) - 1) := ⟨by have := HCL.out; unfold wrap64; omega⟩
      go_wp2_with (first
        | (at_builtin; refine wpList_append_own_at _ rfl _ _ 52 rfl w.heap.size 3 i0 (.int .i64 0) 1 8 Try.underlying52 hi0 hz0 hz1 hz2 rfl (by decide) _ _ _ rfl (HO.out.alloc _) ⟨wr.heap.size, 0, none⟩ 1 1 [.int .i64 x.h] rfl rfl (cell_one_new _ _ _) (by simp [Value.oneCell']) hl1 hl2 (hl3 _) ?_; intro v' w1 hown' hgrow hnil hloc; have HO1 := Aside0.mk hown'; have HB1 := Aside0.mk ((below_alloc HB.out _).grown hgrow (hl3 _) (fun k e => (HO.out.lt k e).1)); clear hown' hgrow hnil hloc; go_frame))
      have e1 : wrap64 ((r : Int) - 1) = (r : Int) - 1 := HWR.out
      first | rw [e1] | skip
      exact ⟨⟨r, by omega, rfl, ⟨by rw [HXR.out]; have h := HO1.out; rw [show c.length - (r + 1) + 1 = c.length - r by omega] at h; simpa [intsV] using h⟩, HB1⟩, by show ((r : Int) - 1 + 1).toNat < ((r : Int) + 1).toNat; omega⟩
end Go.Proofs.Ytonjhnglcffihaa.Tab
