/- PROVED: what the document's Chain answers. Conditions: those each theorem states. -/
import Derived.Test.YtonjhnglcffihaaRefDrop
import Derived.Test.YtonjhnglcffihaaTabOnce
set_option linter.unusedVariables false
set_option linter.unusedSimpArgs false
namespace Go.Proofs.Ytonjhnglcffihaa.Tab
open Go Go.RowKit Go.Proofs.Ytonjhnglcffihaa.Print Go.Proofs.YtonjhnglcffihaaW.PrintWords Go.Proofs.YtonjhnglcffihaaW.PrintLast Go.Proofs.YtonjhnglcffihaaW.PrintMore
theorem ref_hash_l (s : ByteArray) (hs : s.size ≤ maxLen) : ∀ (d i : Nat) (h : Int), i + d = s.size → heirloomref02_Hash.l0 (d + 1) s h (i : Int) = some (hashFrom s d h i) := by
  unfold maxLen at hs
  intro d
  induction d with
  | zero =>
    intro i h hi
    simp only [heirloomref02_Hash.l0]; rw [if_neg (by omega)]; rfl
  | succ d ih =>
    intro i h hi
    have := ih (i + 1) (hstep h (bt s (i : Nat))) (by omega)
    unfold heirloomref02_Hash.l0
    rw [if_pos (by omega), if_pos (by omega), wrap_nat_succ i (by omega)]
    exact this
theorem ref_hash_some (s : ByteArray) (hs : s.size ≤ maxLen) : heirloomref02_Hash.f (s.size + 1) s = some (hsh s) := ref_hash_l s hs s.size 0 _ (by omega)
def tellFrom (n : Nat) (L : List En) (b p : Nat) : List Int := (((L.drop p).filter fun x => bk n x.s == b).map En.h).reverse
theorem tellFrom_zero (st : St) (b : Nat) : tellFrom st.n st.L b 0 = st.told b := rfl
theorem tellFrom_end (n : Nat) (L : List En) (b : Nat) : tellFrom n L b L.length = [] := by simp [tellFrom]
theorem tellFrom_yes {n : Nat} {L : List En} {b p : Nat} {x : En} (h : L[p]? = some x) (hb : bk n x.s = b) : tellFrom n L b p = tellFrom n L b (p + 1) ++ [x.h] := by
  obtain ⟨hl, e⟩ := List.getElem?_eq_some_iff.1 h
  unfold tellFrom
  rw [List.drop_eq_getElem_cons hl, e, List.filter_cons_of_pos (by simpa using hb)]
  simp
theorem tellFrom_no {n : Nat} {L : List En} {b p : Nat} {x : En} (h : L[p]? = some x) (hb : bk n x.s ≠ b) : tellFrom n L b p = tellFrom n L b (p + 1) := by
  obtain ⟨hl, e⟩ := List.getElem?_eq_some_iff.1 h
  unfold tellFrom
  rw [List.drop_eq_getElem_cons hl, e, List.filter_cons_of_neg (by simpa using hb)]
theorem tellFrom_le (n : Nat) (L : List En) (b p : Nat) : (tellFrom n L b p).length ≤ L.length := by
  unfold tellFrom
  rw [List.length_reverse, List.length_map]
  exact Nat.le_trans (List.length_filter_le _ _) (by rw [List.length_drop]; omega)
theorem told_far {st : St} (h0 : 0 < st.n) (h1 : st.n ≤ 1048576) {b : Nat} (hb : st.n ≤ b) : st.told b = [] := by
  unfold St.told St.chain
  rw [List.filter_eq_nil_iff.2 (fun x _ => by have := bk_lt st.n x.s h0 h1; simp; omega)]
  rfl
theorem ints_snoc {w : World} {base : Nat} {v : Value} {l : List Int} {x : Int} (h : w.ownsRow base 3 1 v (l.length + 1) (intsV l ++ [.int .i64 x])) : w.ownsRow base 3 1 v (l ++ [x]).length (intsV (l ++ [x])) := by
  rw [show intsV (l ++ [x]) = intsV l ++ [.int .i64 x] by simp [intsV], List.length_append]
  exact h
theorem Ref.chain_neg {w : World} {S : Nat → Prop} {g : Nat} {st : St} (h : Ref w S g st) (x : Int) (hx : x < 0) :
    Calls Try.prog 29 #[.pointer (some ⟨g, 0, none⟩), .int .i64 x] w fun e w' => e = .returned (.slice none 0 0) ∧ Below w.heap.size w w' := by
  obtain ⟨o, v, h⟩ := h
  obtain ⟨c0, c1, cf⟩ := h.cells
  have HLL : Aside0 (st.L.length ≤ 1000) := ⟨Nat.le_trans o.many o.q⟩
  obtain ⟨p, cp, hv, hxx⟩ := ownsRow_val2 h.row
  subst hv
  have hx0 : ¬ x ≥ 0 := by omega
  clear h hxx o
  go_enter Try.func29, Try.ntmps29
  go_wp2
  go_loopw [5, 6] (fun v i wr => v = .slice none 0 0 ∧ (∃ j, i = .int .i64 j) ∧ Aside0 (Below w.heap.size w wr)) (fun _ i _ => 0)
  case atStart => exact ⟨rfl, ⟨_, rfl⟩, ⟨Below.refl _ _⟩⟩
  case round =>
    obtain ⟨rfl, ⟨j, rfl⟩, HB⟩ := hrel
    by_cases hj : j ≥ 0
    · go_wp2
      go_ret
      exact ⟨rfl, HB.out⟩
    · go_wp2
      go_ret
      exact ⟨rfl, HB.out⟩
set_option maxHeartbeats 4000000 in
set_option maxRecDepth 100000 in
theorem Ref.chain {w : World} {S : Nat → Prop} {g : Nat} {st : St} (h : Ref w S g st) (bn : Nat) (hbn : bn ≤ 1048576) :
    Calls Try.prog 29 #[.pointer (some ⟨g, 0, none⟩), .int .i64 (bn : Int)] w fun e w' => ∃ A cap, e = .returned (.slice A (st.told bn).length cap) ∧ Kd.C (Kd.int .i64) w' A (st.told bn).length (st.told bn) ∧ (st.told bn).length ≤ cap ∧ Below w.heap.size w w' := by
  obtain ⟨o, v, h⟩ := h
  obtain ⟨c0, c1, cf⟩ := h.cells
  have HLL : Aside0 (st.L.length ≤ 1000) := ⟨Nat.le_trans o.many o.q⟩
  have hn4 := o.pos
  have HTW := Aside0.mk o.two
  have HN5 : Aside0 (st.n ≤ 1048576) := ⟨by have := o.few; have := o.q; omega⟩
  have HLEN := Aside0.mk o.len
  obtain ⟨p, cp, hv, hx⟩ := ownsRow_val2 h.row
  have HXX := Aside0.mk hx
  have hb0 : (0 : Int) ≤ (bn : Int) := by omega
  subst hv
  clear h hx o
  have hwl : Aside0 (wrap64 ((st.L.length : Int) - 1) = (st.L.length : Int) - 1) := ⟨by have := HLL.out; unfold wrap64; omega⟩
  have HN0 : Aside0 (w.ownsRow w.heap.size 3 1 (.slice none 0 0) (tellFrom st.n st.L bn st.L.length).length (intsV (tellFrom st.n st.L bn st.L.length))) := ⟨by
    rw [tellFrom_end]
    exact World.ownsRow_nil _ _ _ _⟩
  have hw' := hwl.out
  go_enter Try.func29, Try.ntmps29
  go_wp2
  go_loopw [5, 6] (fun v i wr => ∃ p : Nat, p ≤ st.L.length ∧ i = .int .i64 ((p : Int) - 1) ∧ Aside0 (wr.ownsRow w.heap.size 3 1 v (tellFrom st.n st.L bn p).length (intsV (tellFrom st.n st.L bn p))) ∧ Aside0 (Below w.heap.size w wr)) (fun _ i _ => (intOf i + 1).toNat)
  case atStart => exact ⟨st.L.length, Nat.le_refl _, by first | rfl | rw [hwl.out], HN0, ⟨Below.refl _ _⟩⟩
  case round =>
    obtain ⟨p, hp, rfl, HO, HB⟩ := hrel
    clear hw'
    cases p with
    | zero =>
      have hn1 : ¬ (((0 : Nat) : Int) - 1 ≥ 0) := by decide
      go_wp2
      go_ret
      have HO2 := HO.out
      rw [tellFrom_zero] at HO2
      obtain ⟨A1, cap1, e1, e2, e3⟩ := ints_C HO2
      exact ⟨A1, cap1, congrArg Ending.returned e1, e2, e3, HB.out⟩
    | succ r =>
      obtain ⟨y, hyr⟩ : ∃ x, st.L[r]? = some x := ⟨_, List.getElem?_eq_getElem (by omega)⟩
      obtain ⟨b, rfl, _, x0, x1⟩ := HXX.out r y hyr
      replace x0 := (HB.out.cell (World.block_lt_of_cell? w _ x0)).trans x0
      replace x1 := (HB.out.cell (World.block_lt_of_cell? w _ x1)).trans x1
      have k0 := (HB.out.cell (World.block_lt_of_cell? w _ c0)).trans c0
      have k1 := (HB.out.cell (World.block_lt_of_cell? w _ c1)).trans c1
      have HYR := Aside0.mk hyr
      have hys : y.s.size ≤ maxLen := HLEN.out y (List.mem_of_getElem? hyr)
      have HSH := Aside0.mk (ref_hash_some y.s hys)
      have hsr := hsh_range y.s
      have HTM : Aside0 ((wrap64 (hsh y.s)).tmod (st.n : Int) = (bk st.n y.s : Int)) := ⟨by rw [show wrap64 (hsh y.s) = hsh y.s by unfold wrap64; omega, Int.tmod_eq_emod_of_nonneg hsr.1]; exact bk_rem y.s HTW.out HN5.out⟩
      clear hyr hys
      have er : (((r + 1 : Nat) : Int) - 1) = (r : Int) := by omega
      rw [er]
      have hr0 : (r : Int) ≥ 0 := by omega
      have hr1 : (0 : Int) ≤ (r : Int) := by omega
      have hr2 : (r : Int) < (st.L.length : Int) := by omega
      have hwr : Aside0 (wrap64 ((r : Int) - 1) = (r : Int) - 1) := ⟨by have := HLL.out; unfold wrap64; omega⟩
      go_wp2
      refine start_ (n := 17) (S := fun w' => w'.cell? ⟨g, 0, none⟩ = some (.slice (some ⟨b, 0, none⟩) st.L.length cp) ∧ w'.cell? ⟨g, 1, none⟩ = some (.int .i64 (st.n : Int)) ∧ w'.cell? ⟨b, r * 2, none⟩ = some (.string y.s)) (ds := []) #[false, false, false, false, false, false, false, false, false, false, false, false, false, false, false, false, false] (by kernel_rfl) rfl rfl ⟨k0, k1, x0⟩ (fun hHeld => ?_)
      refine pure_ (i := 0) (N := (some 21)) (v := ?_) (a' := ?_) #[true, false, false, false, false, false, false, false, false, false, false, false, false, false, false, false, false] rfl rfl (by kernel_rfl) (fun _ _ _ h => h) (Or.inl ⟨by rfl, ?_⟩) ?_ ?_
      rotate_left
      · intro w'
        go_simp
        with_reducible rfl
      rotate_left
      · simp only [Act.put, List.setIfInBounds_toArray, List.set_cons_zero, List.set_cons_succ, i64_w, i32_w]
        rfl
      refine pure_ (i := 1) (N := (some 22)) (v := ?_) (a' := ?_) #[true, true, false, false, false, false, false, false, false, false, false, false, false, false, false, false, false] rfl rfl (by kernel_rfl) (fun _ _ _ h => h) (Or.inl ⟨by rfl, ?_⟩) ?_ ?_
      rotate_left
      · intro w'
        go_simp
        with_reducible rfl
      rotate_left
      · simp only [Act.put, List.setIfInBounds_toArray, List.set_cons_zero, List.set_cons_succ, i64_w, i32_w]
        rfl
      refine pure_ (i := 2) (N := (some 23)) (v := ?_) (a' := ?_) #[true, true, true, false, false, false, false, false, false, false, false, false, false, false, false, false, false] rfl rfl (by kernel_rfl) (fun _ _ _ h => h) (Or.inl ⟨by rfl, ?_⟩) ?_ ?_
      rotate_left
      · intro w'
        go_simp
        with_reducible rfl
      rotate_left
      · simp only [Act.put, List.setIfInBounds_toArray, List.set_cons_zero, List.set_cons_succ, i64_w, i32_w]
        rfl
      refine take_ (i := 3) (N := (some 24)) (v := ?_) (a' := ?_) #[true, true, true, true, false, false, false, false, false, false, false, false, false, false, false, false, false] rfl rfl (by kernel_rfl) (fun _ _ _ h => h) (Or.inl ⟨by rfl, ?_⟩) hHeld ?_ ?_
      rotate_left
      · rintro w' ⟨s0, s1, s2⟩
        go_simp
        with_reducible rfl
      rotate_left
      · simp only [Act.put, List.setIfInBounds_toArray, List.set_cons_zero, List.set_cons_succ, i64_w, i32_w]
        rfl
      refine pure_ (i := 4) (N := (some 25)) (v := ?_) (a' := ?_) #[true, true, true, true, true, false, false, false, false, false, false, false, false, false, false, false, false] rfl rfl (by kernel_rfl) (fun _ _ _ h => h) (Or.inl ⟨by rfl, ?_⟩) ?_ ?_
      rotate_left
      · intro w'
        go_simp
        with_reducible rfl
      rotate_left
      · simp only [Act.put, List.setIfInBounds_toArray, List.set_cons_zero, List.set_cons_succ, i64_w, i32_w]
        rfl
      refine pure_ (i := 5) (N := (some 26)) (v := ?_) (a' := ?_) #[true, true, true, true, true, true, false, false, false, false, false, false, false, false, false, false, false] rfl rfl (by kernel_rfl) (fun _ _ _ h => h) (Or.inl ⟨by rfl, ?_⟩) ?_ ?_
      rotate_left
      · intro w'
        go_simp
        with_reducible rfl
      rotate_left
      · simp only [Act.put, List.setIfInBounds_toArray, List.set_cons_zero, List.set_cons_succ, i64_w, i32_w]
        rfl
      refine pure_ (i := 6) (N := (some 27)) (v := ?_) (a' := ?_) #[true, true, true, true, true, true, true, false, false, false, false, false, false, false, false, false, false] rfl rfl (by kernel_rfl) (fun _ _ _ h => h) (Or.inl ⟨by rfl, ?_⟩) ?_ ?_
      rotate_left
      · intro w'
        go_simp
        with_reducible rfl
      rotate_left
      · simp only [Act.put, List.setIfInBounds_toArray, List.set_cons_zero, List.set_cons_succ, i64_w, i32_w]
        rfl
      refine take_ (i := 7) (N := (some 28)) (v := ?_) (a' := ?_) #[true, true, true, true, true, true, true, true, false, false, false, false, false, false, false, false, false] rfl rfl (by kernel_rfl) (fun _ _ _ h => h) (Or.inl ⟨by rfl, ?_⟩) hHeld ?_ ?_
      rotate_left
      · rintro w' ⟨s0, s1, s2⟩
        go_simp
        with_reducible rfl
      rotate_left
      · simp only [Act.put, List.setIfInBounds_toArray, List.set_cons_zero, List.set_cons_succ, i64_w, i32_w]
        rfl
      refine pure_ (i := 10) (N := (some 31)) (v := ?_) (a' := ?_) #[true, true, true, true, true, true, true, true, false, false, true, false, false, false, false, false, false] rfl rfl (by kernel_rfl) (fun _ _ _ h => h) (Or.inl ⟨by rfl, ?_⟩) ?_ ?_
      rotate_left
      · intro w'
        go_simp
        with_reducible rfl
      rotate_left
      · simp only [Act.put, List.setIfInBounds_toArray, List.set_cons_zero, List.set_cons_succ, i64_w, i32_w]
        rfl
      refine pure_ (i := 11) (N := (some 32)) (v := ?_) (a' := ?_) #[true, true, true, true, true, true, true, true, false, false, true, true, false, false, false, false, false] rfl rfl (by kernel_rfl) (fun _ _ _ h => h) (Or.inl ⟨by rfl, ?_⟩) ?_ ?_
      rotate_left
      · intro w'
        go_simp
        with_reducible rfl
      rotate_left
      · simp only [Act.put, List.setIfInBounds_toArray, List.set_cons_zero, List.set_cons_succ, i64_w, i32_w]
        rfl
      refine pure_ (i := 12) (N := (some 33)) (v := ?_) (a' := ?_) #[true, true, true, true, true, true, true, true, false, false, true, true, true, false, false, false, false] rfl rfl (by kernel_rfl) (fun _ _ _ h => h) (Or.inl ⟨by rfl, ?_⟩) ?_ ?_
      rotate_left
      · intro w'
        go_simp
        with_reducible rfl
      rotate_left
      · simp only [Act.put, List.setIfInBounds_toArray, List.set_cons_zero, List.set_cons_succ, i64_w, i32_w]
        rfl
      refine take_ (i := 13) (N := (some 34)) (v := ?_) (a' := ?_) #[true, true, true, true, true, true, true, true, false, false, true, true, true, true, false, false, false] rfl rfl (by kernel_rfl) (fun _ _ _ h => h) (Or.inl ⟨by rfl, ?_⟩) hHeld ?_ ?_
      rotate_left
      · rintro w' ⟨s0, s1, s2⟩
        go_simp
        with_reducible rfl
      rotate_left
      · simp only [Act.put, List.setIfInBounds_toArray, List.set_cons_zero, List.set_cons_succ, i64_w, i32_w]
        rfl
      refine pure_ (i := 15) (N := (some 36)) (v := ?_) (a' := ?_) #[true, true, true, true, true, true, true, true, false, false, true, true, true, true, false, true, false] rfl rfl (by kernel_rfl) (fun _ _ _ h => h) (Or.inl ⟨by rfl, ?_⟩) ?_ ?_
      rotate_left
      · intro w'
        go_simp
        with_reducible rfl
      rotate_left
      · simp only [Act.put, List.setIfInBounds_toArray, List.set_cons_zero, List.set_cons_succ, i64_w, i32_w]
        rfl
      refine one_ (i := 8) (N := (some 29)) #[true, true, true, true, true, true, true, true, true, false, true, true, true, true, false, true, false] rfl rfl (by kernel_rfl) (by decide) (fun K hK => ?_)
      refine goes_ Try.func36 (by kernel_rfl) rfl #[.string y.s] (by rfl) rfl rfl (by first | rfl | (simp [Act.eval]; done) | (go_simp; done)) ?_
      refine (heirloomref02_Hash.calls _ y.s (hsh y.s) _ HSH.out).mono ?_
      rintro e w9 ⟨rfl, d9⟩
      obtain ⟨n9, hd9⟩ := d9.out
      refine ⟨_, rfl, hK.out _ _ (by subst hd9; exact hHeld) (fun hHeld => ?_)⟩
      have HB9 : Aside0 (Below w.heap.size w w9) := ⟨by subst hd9; exact pw_below_drewN (HB.out.drew) _⟩
      have HR9 : Aside0 (∀ k : Nat, w9.heap[k]? = wr.heap[k]?) := ⟨by subst hd9; exact fun _ => rfl⟩
      clear d9 hd9 hK K
      refine norm_ (a' := ?_) ?_ ?_
      rotate_left
      · simp only [Act.put, List.setIfInBounds_toArray, List.set_cons_zero, List.set_cons_succ, i64_w, i32_w]
        rfl
      refine pure_ (i := 9) (N := (some 30)) (v := ?_) (a' := ?_) #[true, true, true, true, true, true, true, true, true, true, true, true, true, true, false, true, false] rfl rfl (by kernel_rfl) (fun _ _ _ h => h) (Or.inl ⟨by rfl, ?_⟩) ?_ ?_
      rotate_left
      · intro w'
        go_simp
        with_reducible rfl
      rotate_left
      · simp only [Act.put, List.setIfInBounds_toArray, List.set_cons_zero, List.set_cons_succ, i64_w, i32_w]
        rfl
      refine pure_ (i := 14) (N := (some 35)) (v := .int .i64 (bk st.n y.s : Int)) (a' := ?_) #[true, true, true, true, true, true, true, true, true, true, true, true, true, true, true, true, false] rfl rfl (by kernel_rfl) (fun _ _ _ h => h) (Or.inl ⟨by rfl, ?_⟩) ?_ ?_
      skip
      · intro w'
        go_simp
        rw [if_neg (by omega), HTM.out]
      rotate_left
      · simp only [Act.put, List.setIfInBounds_toArray, List.set_cons_zero, List.set_cons_succ, i64_w, i32_w]
        rfl
      refine pure_ (i := 16) (N := (some 37)) (v := ?_) (a' := ?_) #[true, true, true, true, true, true, true, true, true, true, true, true, true, true, true, true, true] rfl rfl (by kernel_rfl) (fun _ _ _ h => h) (Or.inl ⟨by rfl, ?_⟩) ?_ ?_
      rotate_left
      · intro w'
        go_simp
        with_reducible rfl
      rotate_left
      · simp only [Act.put, List.setIfInBounds_toArray, List.set_cons_zero, List.set_cons_succ, i64_w, i32_w]
        rfl
      refine done_ (by kernel_rfl) ?_
      clear hHeld
      replace x0 := (World.cell?_of_block (w := wr) (w' := w9) (a := ⟨b, r * 2, none⟩) (HR9.out _)).trans x0
      replace x1 := (World.cell?_of_block (w := wr) (w' := w9) (a := ⟨b, r * 2 + 1, none⟩) (HR9.out _)).trans x1
      replace k0 := (World.cell?_of_block (w := wr) (w' := w9) (a := ⟨g, 0, none⟩) (HR9.out _)).trans k0
      have HO9 : Aside0 (w9.ownsRow w.heap.size 3 1 u5 (tellFrom st.n st.L bn (r + 1)).length (intsV (tellFrom st.n st.L bn (r + 1)))) := ⟨row_of_block HO.out (fun _ _ => HR9.out _)⟩
      clear k1 HO HR9 hsr HTM HSH
      by_cases hbe : bk st.n y.s = bn
      · have hbq : ((bk st.n y.s : Int) == (bn : Int)) = true := by rw [hbe]; simp
        obtain ⟨i0, hi0, hz0, hz1, hz2⟩ := info_parts info3
        have HTL : Aside0 ((tellFrom st.n st.L bn (r + 1)).length + 1 ≤ 1001) := ⟨by have := tellFrom_le st.n st.L bn (r + 1); have := HLL.out; omega⟩
        have HZ : Aside0 (w.heap.size ≤ w9.heap.size) := ⟨HB9.out.size⟩
        have hl3 : ∀ o, w.heap.size ≤ (w9.alloc o).heap.size := fun o => by have := HZ.out; simp; omega
        go_wp2_with (first
          | (at_builtin; refine wpList_append_own_at _ rfl _ _ 52 rfl w.heap.size 3 i0 (.int .i64 0) 1 8 Try.underlying52 hi0 hz0 hz1 hz2 rfl (by decide) _ _ _ rfl (HO9.out.alloc _) ⟨w9.heap.size, 0, none⟩ 1 1 [.int .i64 y.h] rfl rfl (cell_one_new _ _ _) (by simp [Value.oneCell']) (by have := HTL.out; unfold maxLen; omega) (by have := HTL.out; omega) (hl3 _) ?_; intro v' w3 hown' hgrow hnil hloc; have HO3 := Aside0.mk (ints_snoc hown'); have HB3 := Aside0.mk ((below_alloc HB9.out _).grown hgrow (hl3 _) (fun k e => (HO9.out.lt k e).1)); clear hown' hgrow hnil hloc; go_frame))
        first | rw [hwr.out] | skip
        exact ⟨⟨r, by omega, rfl, ⟨by rw [tellFrom_yes HYR.out hbe]; exact HO3.out⟩, HB3⟩, by show ((r : Int) - 1 + 1).toNat < ((r : Int) + 1).toNat; omega⟩
      · have hbq : ((bk st.n y.s : Int) == (bn : Int)) = false := by rw [beq_eq_false_iff_ne]; exact fun e => hbe (by omega)
        go_wp2
        first | rw [hwr.out] | skip
        exact ⟨⟨r, by omega, rfl, ⟨by rw [tellFrom_no HYR.out hbe]; exact HO9.out⟩, HB9⟩, by show ((r : Int) - 1 + 1).toNat < ((r : Int) + 1).toNat; omega⟩
end Go.Proofs.Ytonjhnglcffihaa.Tab
