/- PROVED: the document's Drop. Conditions: those each theorem states. -/
import Derived.Test.YtonjhnglcffihaaRefPut
set_option linter.unusedVariables false
set_option linter.unusedSimpArgs false
namespace Go.Proofs.Ytonjhnglcffihaa.Tab
open Go Go.RowKit Go.Proofs.Ytonjhnglcffihaa.Print Go.Proofs.YtonjhnglcffihaaW.PrintWords Go.Proofs.YtonjhnglcffihaaW.PrintLast Go.Proofs.YtonjhnglcffihaaW.PrintMore
def keepE (L : List En) (x : Int) (q : Nat) : List En := (L.take q).filter fun y => !(y.h == x)
theorem keepE_yes {L : List En} {x : Int} {q : Nat} {y : En} (h : L[q]? = some y) (hy : y.h ≠ x) : keepE L x (q + 1) = keepE L x q ++ [y] := by
  obtain ⟨hl, rfl⟩ := List.getElem?_eq_some_iff.1 h
  unfold keepE
  rw [List.take_succ_eq_append_getElem hl, List.filter_append]
  congr 1
  rw [List.filter_cons_of_pos (by simpa using hy)]
  rfl
theorem keepE_no {L : List En} {x : Int} {q : Nat} {y : En} (h : L[q]? = some y) (hy : y.h = x) : keepE L x (q + 1) = keepE L x q := by
  obtain ⟨hl, rfl⟩ := List.getElem?_eq_some_iff.1 h
  unfold keepE
  rw [List.take_succ_eq_append_getElem hl, List.filter_append]
  rw [List.filter_cons_of_neg (by simpa using hy)]
  simp
theorem keepE_le (L : List En) (x : Int) (q : Nat) : (keepE L x q).length ≤ L.length := Nat.le_trans (List.length_filter_le _ _) (by rw [List.length_take]; omega)
theorem own_snoc2 {w : World} {base : Nat} {v : Value} {L : List En} {x : En} (h : w.ownsRow base 68 2 v (L.length + 1) (flat2 L ++ [Value.string x.s, Value.int .i64 x.h])) : w.ownsRow base 68 2 v (L ++ [x]).length (flat2 (L ++ [x])) := own_snoc h
theorem keep_all {w : World} {base : Nat} {v : Value} {L : List En} {x : Int} (h : w.ownsRow base 68 2 v (keepE L x L.length).length (flat2 (keepE L x L.length))) : ∃ L', Aside0 (L' = L.filter fun y => !(y.h == x)) ∧ Aside0 (w.ownsRow base 68 2 v L'.length (flat2 L')) :=
  ⟨_, ⟨rfl⟩, ⟨by unfold keepE at h; rw [List.take_length] at h; exact h⟩⟩
set_option maxHeartbeats 4000000 in
set_option maxRecDepth 100000 in
theorem Ref.drop_none {w : World} {S : Nat → Prop} {g : Nat} {st : St} (h : Ref w S g st) (x : Int) (ht : st.text x = none) :
    Calls Try.prog 35 #[.pointer (some ⟨g, 0, none⟩), .int .i64 x] w fun e w' => e = .returned (.int .i64 5) ∧ Below w.heap.size w w' := by
  have HT := Aside0.mk h
  have HX := Aside0.mk ht
  clear h ht
  go_enter Try.func35, Try.ntmps35
  go_wp2_with (go_at_call 26; refine (HT.out.text_as x HX.out).mono ?_; rintro e w2 ⟨rfl, b2⟩; have B2 := Aside0.mk b2; clear b2)
  go_ret
  exact ⟨rfl, B2.out⟩
set_option maxHeartbeats 4000000 in
set_option maxRecDepth 100000 in
theorem Ref.drop_some {w : World} {S : Nat → Prop} {g : Nat} {st : St} (h : Ref w S g st) (x : Int) (s : ByteArray) (ht : st.text x = some s) :
    Calls Try.prog 35 #[.pointer (some ⟨g, 0, none⟩), .int .i64 x] w fun e w' => e = .returned (.int .i64 0) ∧ Ref w' (ext S w w') g (st.del x) ∧ Only S w w' := by
  have HOK := Aside0.mk (h.1.deled x)
  have HLL : Aside0 (st.L.length ≤ 1000) := ⟨Nat.le_trans h.1.many h.1.q⟩
  have HNN : Aside0 (st.n ≤ 1048576) := ⟨by have := h.1.few; have := h.1.q; omega⟩
  have HT := Aside0.mk h
  have HX := Aside0.mk ht
  clear h ht
  go_enter Try.func35, Try.ntmps35
  go_wp2_with (go_at_call 26; refine (HT.out.text_as x HX.out).mono ?_; rintro e w2 ⟨rfl, b2⟩; obtain ⟨_, v2, h2⟩ := HT.out.below b2; have H2 := Aside0.mk h2; have B2 := Aside0.mk b2; clear b2 h2)
  obtain ⟨c0, c1, cf⟩ := H2.out.cells
  obtain ⟨p, cp, hv, hx⟩ := ownsRow_val2 H2.out.row
  have HXX := Aside0.mk hx
  subst hv
  clear hx
  go_loopw [7, 8] (fun v i wr => ∃ q : Nat, q ≤ st.L.length ∧ i = .int .i64 q ∧ Aside0 (wr.ownsRow w2.heap.size 68 2 v (keepE st.L x q).length (flat2 (keepE st.L x q))) ∧ Aside0 (Below w2.heap.size w2 wr)) (fun _ i _ => st.L.length - (intOf i).toNat)
  case atStart => exact ⟨0, by omega, rfl, ⟨World.ownsRow_nil _ _ _ _⟩, ⟨Below.refl _ _⟩⟩
  case round =>
    obtain ⟨q, hq, rfl, HO, HB⟩ := hrel
    have k0 := (HB.out.cell (World.block_lt_of_cell? w2 _ c0)).trans c0
    by_cases hlt : q < st.L.length
    · have hlt0 : (q : Int) < (st.L.length : Int) := by omega
      have hq0 : (0 : Int) ≤ (q : Int) := by omega
      obtain ⟨y, hyq⟩ : ∃ y, st.L[q]? = some y := ⟨_, List.getElem?_eq_getElem hlt⟩
      obtain ⟨b, rfl, _, x0, x1⟩ := HXX.out q y hyq
      replace x0 := (HB.out.cell (World.block_lt_of_cell? w2 _ x0)).trans x0
      replace x1 := (HB.out.cell (World.block_lt_of_cell? w2 _ x1)).trans x1
      have HYQ := Aside0.mk hyq
      clear hyq
      have HLW : Aside0 (wrap64 ((q : Int) + 1) = ((q + 1 : Nat) : Int)) := ⟨wrap_nat_succ q (by have := HLL.out; omega)⟩
      by_cases hh : y.h = x
      · have hh3 : (y.h != x) = false := bne_eq_false_iff_eq.2 hh
        go_wp2
        rw [HLW.out]
        exact ⟨⟨q + 1, hlt, rfl, ⟨by rw [keepE_no HYQ.out hh]; exact HO.out⟩, HB⟩, by show st.L.length - ((q + 1 : Nat) : Int).toNat < st.L.length - (q : Int).toNat; omega⟩
      · have hh3 : (y.h != x) = true := bne_iff_ne.2 hh
        obtain ⟨i0, hi0, hz0, hz1, hz2⟩ := info_parts info68
        have HKL : Aside0 ((keepE st.L x q).length + 1 ≤ 1001) := ⟨by have := keepE_le st.L x q; have := HLL.out; omega⟩
        have HZ : Aside0 (w2.heap.size ≤ wr.heap.size) := ⟨HB.out.size⟩
        have hl3 : ∀ o, w2.heap.size ≤ (wr.alloc o).heap.size := fun o => by have := HZ.out; simp; omega
        go_wp2_with (first
          | (at_builtin; refine wpList_append_own_at _ rfl _ _ 48 rfl w2.heap.size 68 i0 (.agg #[.string ByteArray.empty, .int .i64 0]) 2 24 Try.underlying48 hi0 hz0 hz1 hz2 rfl (by decide) _ (keepE st.L x q).length (flat2 (keepE st.L x q)) rfl (HO.out.alloc _) ⟨wr.heap.size, 0, none⟩ 1 1 [.string y.s, .int .i64 y.h] rfl rfl (World.news_of_block (heap_alloc_new _ _)) (by simp [Value.oneCell']) (by have := HKL.out; unfold maxLen; omega) (by have := HKL.out; omega) (hl3 _) ?_; intro v' w3 hown3 hgrow3 hnil3 hloc3; have HO3 := Aside0.mk (own_snoc2 (x := y) hown3); have HB3 := Aside0.mk ((below_alloc HB.out _).grown hgrow3 (hl3 _) (fun k e => (HO.out.lt k e).1)); clear hown3 hgrow3 hnil3 hloc3; go_frame))
        rw [HLW.out]
        exact ⟨⟨q + 1, hlt, rfl, ⟨by rw [keepE_yes HYQ.out hh]; exact HO3.out⟩, HB3⟩, by show st.L.length - ((q + 1 : Nat) : Int).toNat < st.L.length - (q : Int).toNat; omega⟩
    · have hlt0 : ¬ (q : Int) < (st.L.length : Int) := by omega
      obtain rfl : q = st.L.length := by omega
      obtain ⟨L', hL', HO9⟩ := keep_all HO.out
      obtain ⟨p9, cp9, rfl, _⟩ := ownsRow_val2 HO9.out
      have HSET := Aside0.mk (H2.out.setl (w3 := wr) (row := none) (q' := st.q) (grown_of_below HB.out none) (fun k e _ => by cases e) (by simp) _ (ownsRow_zero HO9.out) (fun b e => Or.inr (HO9.out.lt b e).1))
      have kf := (HB.out.frozen (p := ⟨g, 0, none⟩) H2.out.lts.1).trans (cf 0)
      have HLL9 : Aside0 (L'.length ≤ 1000) := ⟨by rw [hL'.out]; exact Nat.le_trans (List.length_filter_le _ _) HLL.out⟩
      go_wp2
      clear k0 kf c0 c1 cf HO9 HO HXX HT
      generalize wr.setCell ⟨g, 0, none⟩ (.slice p9 L'.length cp9) = w4 at HSET ⊢
      obtain ⟨h4, o4⟩ := HSET.out
      obtain ⟨d0, d1, df⟩ := h4.cells
      have H4 := Aside0.mk (h4.of_blocks (w' := w4.drew) (S' := ext S w2 w4) (fun _ _ h => h) (fun _ _ _ => rfl))
      have O4 := Aside0.mk o4.drew
      have df2 : w4.drew.frozen? ⟨g, 1, none⟩ = false := df 1
      clear h4 o4 HSET df
      by_cases h4 : 4 < st.n
      · have h4a : (4 : Int) < (st.n : Int) := by omega
        have hll : (L'.length : Int) ≤ 1000 := by have := HLL9.out; omega
        refine start_ (n := 18) (S := fun w' => w'.cell? ⟨g, 0, none⟩ = some (.slice p9 L'.length cp9) ∧ w'.cell? ⟨g, 1, none⟩ = some (.int .i64 (st.n : Int))) (ds := []) #[false, false, false, false, false, false, false, false, false, false, false, false, false, false, false, false, false, false] (by kernel_rfl) rfl rfl ⟨d0, d1⟩ (fun hHeld => ?_)
        refine pure_ (i := 0) (N := (some 50)) (v := ?_) (a' := ?_) #[true, false, false, false, false, false, false, false, false, false, false, false, false, false, false, false, false, false] rfl rfl (by kernel_rfl) (fun _ _ _ h => h) (Or.inl ⟨by rfl, ?_⟩) ?_ ?_
        rotate_left
        · intro w'
          go_simp
          with_reducible rfl
        rotate_left
        · simp only [Act.put, List.setIfInBounds_toArray, List.set_cons_zero, List.set_cons_succ, i64_w, i32_w]
          rfl
        refine pure_ (i := 1) (N := (some 51)) (v := ?_) (a' := ?_) #[true, true, false, false, false, false, false, false, false, false, false, false, false, false, false, false, false, false] rfl rfl (by kernel_rfl) (fun _ _ _ h => h) (Or.inl ⟨by rfl, ?_⟩) ?_ ?_
        rotate_left
        · intro w'
          go_simp
          with_reducible rfl
        rotate_left
        · simp only [Act.put, List.setIfInBounds_toArray, List.set_cons_zero, List.set_cons_succ, i64_w, i32_w]
          rfl
        refine pure_ (i := 2) (N := (some 52)) (v := ?_) (a' := ?_) #[true, true, true, false, false, false, false, false, false, false, false, false, false, false, false, false, false, false] rfl rfl (by kernel_rfl) (fun _ _ _ h => h) (Or.inl ⟨by rfl, ?_⟩) ?_ ?_
        rotate_left
        · intro w'
          go_simp
          with_reducible rfl
        rotate_left
        · simp only [Act.put, List.setIfInBounds_toArray, List.set_cons_zero, List.set_cons_succ, i64_w, i32_w]
          rfl
        refine take_ (i := 3) (N := (some 53)) (v := ?_) (a' := ?_) #[true, true, true, true, false, false, false, false, false, false, false, false, false, false, false, false, false, false] rfl rfl (by kernel_rfl) (fun _ _ _ h => h) (Or.inl ⟨by rfl, ?_⟩) hHeld ?_ ?_
        rotate_left
        · rintro w' ⟨s0, s1⟩
          go_simp
          with_reducible rfl
        rotate_left
        · simp only [Act.put, List.setIfInBounds_toArray, List.set_cons_zero, List.set_cons_succ, i64_w, i32_w]
          rfl
        refine pure_ (i := 4) (N := (some 54)) (v := ?_) (a' := ?_) #[true, true, true, true, true, false, false, false, false, false, false, false, false, false, false, false, false, false] rfl rfl (by kernel_rfl) (fun _ _ _ h => h) (Or.inl ⟨by rfl, ?_⟩) ?_ ?_
        rotate_left
        · intro w'
          go_simp
          with_reducible rfl
        rotate_left
        · simp only [Act.put, List.setIfInBounds_toArray, List.set_cons_zero, List.set_cons_succ, i64_w, i32_w]
          rfl
        refine pure_ (i := 5) (N := (some 55)) (v := ?_) (a' := ?_) #[true, true, true, true, true, true, false, false, false, false, false, false, false, false, false, false, false, false] rfl rfl (by kernel_rfl) (fun _ _ _ h => h) (Or.inl ⟨by rfl, ?_⟩) ?_ ?_
        rotate_left
        · intro w'
          go_simp
          with_reducible rfl
        rotate_left
        · simp only [Act.put, List.setIfInBounds_toArray, List.set_cons_zero, List.set_cons_succ, i64_w, i32_w]
          rfl
        refine pure_ (i := 6) (N := (some 56)) (v := ?_) (a' := ?_) #[true, true, true, true, true, true, true, false, false, false, false, false, false, false, false, false, false, false] rfl rfl (by kernel_rfl) (fun _ _ _ h => h) (Or.inl ⟨by rfl, ?_⟩) ?_ ?_
        rotate_left
        · intro w'
          go_simp
          with_reducible rfl
        rotate_left
        · simp only [Act.put, List.setIfInBounds_toArray, List.set_cons_zero, List.set_cons_succ, i64_w, i32_w]
          rfl
        refine pure_ (i := 7) (N := (some 57)) (v := ?_) (a' := ?_) #[true, true, true, true, true, true, true, true, false, false, false, false, false, false, false, false, false, false] rfl rfl (by kernel_rfl) (fun _ _ _ h => h) (Or.inl ⟨by rfl, ?_⟩) ?_ ?_
        rotate_left
        · intro w'
          go_simp
          with_reducible rfl
        rotate_left
        · simp only [Act.put, List.setIfInBounds_toArray, List.set_cons_zero, List.set_cons_succ, i64_w, i32_w]
          rfl
        refine pure_ (i := 8) (N := (some 58)) (v := ?_) (a' := ?_) #[true, true, true, true, true, true, true, true, true, false, false, false, false, false, false, false, false, false] rfl rfl (by kernel_rfl) (fun _ _ _ h => h) (Or.inl ⟨by rfl, ?_⟩) ?_ ?_
        rotate_left
        · intro w'
          go_simp
          with_reducible rfl
        rotate_left
        · simp only [Act.put, List.setIfInBounds_toArray, List.set_cons_zero, List.set_cons_succ, i64_w, i32_w]
          rfl
        refine take_ (i := 9) (N := (some 59)) (v := ?_) (a' := ?_) #[true, true, true, true, true, true, true, true, true, true, false, false, false, false, false, false, false, false] rfl rfl (by kernel_rfl) (fun _ _ _ h => h) (Or.inl ⟨by rfl, ?_⟩) hHeld ?_ ?_
        rotate_left
        · rintro w' ⟨s0, s1⟩
          go_simp
          with_reducible rfl
        rotate_left
        · simp only [Act.put, List.setIfInBounds_toArray, List.set_cons_zero, List.set_cons_succ, i64_w, i32_w]
          rfl
        refine pure_ (i := 10) (N := (some 60)) (v := ?_) (a' := ?_) #[true, true, true, true, true, true, true, true, true, true, true, false, false, false, false, false, false, false] rfl rfl (by kernel_rfl) (fun _ _ _ h => h) (Or.inl ⟨by rfl, ?_⟩) ?_ ?_
        rotate_left
        · intro w'
          go_simp
          with_reducible rfl
        rotate_left
        · simp only [Act.put, List.setIfInBounds_toArray, List.set_cons_zero, List.set_cons_succ, i64_w, i32_w]
          rfl
        refine pure_ (i := 11) (N := (some 61)) (v := ?_) (a' := ?_) #[true, true, true, true, true, true, true, true, true, true, true, true, false, false, false, false, false, false] rfl rfl (by kernel_rfl) (fun _ _ _ h => h) (Or.inl ⟨by rfl, ?_⟩) ?_ ?_
        rotate_left
        · intro w'
          go_simp
          with_reducible rfl
        rotate_left
        · simp only [Act.put, List.setIfInBounds_toArray, List.set_cons_zero, List.set_cons_succ, i64_w, i32_w]
          rfl
        refine pure_ (i := 12) (N := (some 62)) (v := ?_) (a' := ?_) #[true, true, true, true, true, true, true, true, true, true, true, true, true, false, false, false, false, false] rfl rfl (by kernel_rfl) (fun _ _ _ h => h) (Or.inl ⟨by rfl, ?_⟩) ?_ ?_
        rotate_left
        · intro w'
          go_simp
          with_reducible rfl
        rotate_left
        · simp only [Act.put, List.setIfInBounds_toArray, List.set_cons_zero, List.set_cons_succ, i64_w, i32_w]
          rfl
        refine pure_ (i := 13) (N := (some 63)) (v := ?_) (a' := ?_) #[true, true, true, true, true, true, true, true, true, true, true, true, true, true, false, false, false, false] rfl rfl (by kernel_rfl) (fun _ _ _ h => h) (Or.inl ⟨by rfl, ?_⟩) ?_ ?_
        rotate_left
        · intro w'
          go_simp
          with_reducible rfl
        rotate_left
        · simp only [Act.put, List.setIfInBounds_toArray, List.set_cons_zero, List.set_cons_succ, i64_w, i32_w]
          rfl
        refine pure_ (i := 14) (N := (some 64)) (v := ?_) (a' := ?_) #[true, true, true, true, true, true, true, true, true, true, true, true, true, true, true, false, false, false] rfl rfl (by kernel_rfl) (fun _ _ _ h => h) (Or.inl ⟨by rfl, ?_⟩) ?_ ?_
        rotate_left
        · intro w'
          go_simp
          with_reducible rfl
        rotate_left
        · simp only [Act.put, List.setIfInBounds_toArray, List.set_cons_zero, List.set_cons_succ, i64_w, i32_w]
          rfl
        refine take_ (i := 15) (N := (some 65)) (v := ?_) (a' := ?_) #[true, true, true, true, true, true, true, true, true, true, true, true, true, true, true, true, false, false] rfl rfl (by kernel_rfl) (fun _ _ _ h => h) (Or.inl ⟨by rfl, ?_⟩) hHeld ?_ ?_
        rotate_left
        · rintro w' ⟨s0, s1⟩
          go_simp
          with_reducible rfl
        rotate_left
        · simp only [Act.put, List.setIfInBounds_toArray, List.set_cons_zero, List.set_cons_succ, i64_w, i32_w]
          rfl
        refine pure_ (i := 16) (N := (some 66)) (v := ?_) (a' := ?_) #[true, true, true, true, true, true, true, true, true, true, true, true, true, true, true, true, true, false] rfl rfl (by kernel_rfl) (fun _ _ _ h => h) (Or.inl ⟨by rfl, ?_⟩) ?_ ?_
        rotate_left
        · intro w'
          go_simp
          with_reducible rfl
        rotate_left
        · simp only [Act.put, List.setIfInBounds_toArray, List.set_cons_zero, List.set_cons_succ, i64_w, i32_w]
          rfl
        refine pure_ (i := 17) (N := (some 67)) (v := ?_) (a' := ?_) #[true, true, true, true, true, true, true, true, true, true, true, true, true, true, true, true, true, true] rfl rfl (by kernel_rfl) (fun _ _ _ h => h) (Or.inl ⟨by rfl, ?_⟩) ?_ ?_
        rotate_left
        · intro w'
          go_simp
          with_reducible rfl
        rotate_left
        · simp only [Act.put, List.setIfInBounds_toArray, List.set_cons_zero, List.set_cons_succ, i64_w, i32_w]
          rfl
        refine done_ (by kernel_rfl) ?_
        clear hHeld d0
        have d1 := H4.out.cells.2.1
        by_cases h5 : 4 * L'.length < st.n
        · have h5a : wrap64 (4 * (L'.length : Int)) < (st.n : Int) := by have := HLL9.out; unfold wrap64; omega
          have hd2 : Aside0 (wrap64 ((st.n : Int) / 2) = ((st.n / 2 : Nat) : Int)) := ⟨by have := HNN.out; unfold wrap64; omega⟩
          go_wp2
          go_ret
          have e2 : ∀ w', w' = w4.drew.setCell ⟨g, 1, none⟩ (.int .i64 ((st.n / 2 : Nat) : Int)) → Ref w' (ext S w w') g (st.del x) ∧ Only S w w' := by
            rintro w' rfl
            obtain ⟨h5', o5⟩ := H4.out.setn (st.n / 2)
            have o6 := only_ext O4.out o5
            refine ⟨⟨HOK.out, .slice p9 L'.length cp9, ?_⟩, Only.early B2.out o6⟩
            have h8 := h5'.of_blocks (S' := ext S w (w4.drew.setCell ⟨g, 1, none⟩ (.int .i64 ((st.n / 2 : Nat) : Int)))) (fun k _ hk => ext_early B2.out.size k (ext_ext O4.out.size o5.size k (Or.inl hk))) (fun _ _ _ => rfl)
            unfold St.del
            rw [← hL'.out, if_pos ⟨h4, h5⟩]
            exact h8
          first
            | exact ⟨rfl, e2 _ rfl⟩
            | exact ⟨rfl, e2 _ (by rw [← hd2.out]; rfl)⟩
        · have h5a : ¬ wrap64 (4 * (L'.length : Int)) < (st.n : Int) := by have := HLL9.out; unfold wrap64; omega
          go_wp2
          go_ret
          refine ⟨rfl, ⟨HOK.out, .slice p9 L'.length cp9, ?_⟩, Only.early B2.out O4.out⟩
          have h8 := H4.out.of_blocks (S' := ext S w w4.drew) (fun k _ hk => ext_early B2.out.size k hk) (fun _ _ _ => rfl)
          unfold St.del
          rw [← hL'.out, if_neg (fun h => h5 h.2)]
          exact h8
      · have h4a : ¬ (4 : Int) < (st.n : Int) := by omega
        refine start_ (n := 18) (S := fun w' => w'.cell? ⟨g, 0, none⟩ = some (.slice p9 L'.length cp9) ∧ w'.cell? ⟨g, 1, none⟩ = some (.int .i64 (st.n : Int))) (ds := []) #[false, false, false, false, false, false, false, false, false, false, false, false, false, false, false, false, false, false] (by kernel_rfl) rfl rfl ⟨d0, d1⟩ (fun hHeld => ?_)
        refine pure_ (i := 0) (N := (some 50)) (v := ?_) (a' := ?_) #[true, false, false, false, false, false, false, false, false, false, false, false, false, false, false, false, false, false] rfl rfl (by kernel_rfl) (fun _ _ _ h => h) (Or.inl ⟨by rfl, ?_⟩) ?_ ?_
        rotate_left
        · intro w'
          go_simp
          with_reducible rfl
        rotate_left
        · simp only [Act.put, List.setIfInBounds_toArray, List.set_cons_zero, List.set_cons_succ, i64_w, i32_w]
          rfl
        refine pure_ (i := 1) (N := (some 51)) (v := ?_) (a' := ?_) #[true, true, false, false, false, false, false, false, false, false, false, false, false, false, false, false, false, false] rfl rfl (by kernel_rfl) (fun _ _ _ h => h) (Or.inl ⟨by rfl, ?_⟩) ?_ ?_
        rotate_left
        · intro w'
          go_simp
          with_reducible rfl
        rotate_left
        · simp only [Act.put, List.setIfInBounds_toArray, List.set_cons_zero, List.set_cons_succ, i64_w, i32_w]
          rfl
        refine pure_ (i := 2) (N := (some 52)) (v := ?_) (a' := ?_) #[true, true, true, false, false, false, false, false, false, false, false, false, false, false, false, false, false, false] rfl rfl (by kernel_rfl) (fun _ _ _ h => h) (Or.inl ⟨by rfl, ?_⟩) ?_ ?_
        rotate_left
        · intro w'
          go_simp
          with_reducible rfl
        rotate_left
        · simp only [Act.put, List.setIfInBounds_toArray, List.set_cons_zero, List.set_cons_succ, i64_w, i32_w]
          rfl
        refine take_ (i := 3) (N := (some 53)) (v := ?_) (a' := ?_) #[true, true, true, true, false, false, false, false, false, false, false, false, false, false, false, false, false, false] rfl rfl (by kernel_rfl) (fun _ _ _ h => h) (Or.inl ⟨by rfl, ?_⟩) hHeld ?_ ?_
        rotate_left
        · rintro w' ⟨s0, s1⟩
          go_simp
          with_reducible rfl
        rotate_left
        · simp only [Act.put, List.setIfInBounds_toArray, List.set_cons_zero, List.set_cons_succ, i64_w, i32_w]
          rfl
        refine pure_ (i := 4) (N := (some 54)) (v := ?_) (a' := ?_) #[true, true, true, true, true, false, false, false, false, false, false, false, false, false, false, false, false, false] rfl rfl (by kernel_rfl) (fun _ _ _ h => h) (Or.inl ⟨by rfl, ?_⟩) ?_ ?_
        rotate_left
        · intro w'
          go_simp
          with_reducible rfl
        rotate_left
        · simp only [Act.put, List.setIfInBounds_toArray, List.set_cons_zero, List.set_cons_succ, i64_w, i32_w]
          rfl
        refine pure_ (i := 5) (N := (some 55)) (v := ?_) (a' := ?_) #[true, true, true, true, true, true, false, false, false, false, false, false, false, false, false, false, false, false] rfl rfl (by kernel_rfl) (fun _ _ _ h => h) (Or.inl ⟨by rfl, ?_⟩) ?_ ?_
        rotate_left
        · intro w'
          go_simp
          with_reducible rfl
        rotate_left
        · simp only [Act.put, List.setIfInBounds_toArray, List.set_cons_zero, List.set_cons_succ, i64_w, i32_w]
          rfl
        refine pure_ (i := 6) (N := (some 56)) (v := undef) (a' := ?_) #[true, true, true, true, true, true, true, false, false, false, false, false, false, false, false, false, false, false] rfl rfl (by kernel_rfl) (fun _ _ _ h => h) (Or.inr ⟨by rfl, rfl⟩) ?_ ?_
        rotate_left
        · simp only [Act.put, List.setIfInBounds_toArray, List.set_cons_zero, List.set_cons_succ, i64_w, i32_w]
          rfl
        refine pure_ (i := 7) (N := (some 57)) (v := undef) (a' := ?_) #[true, true, true, true, true, true, true, true, false, false, false, false, false, false, false, false, false, false] rfl rfl (by kernel_rfl) (fun _ _ _ h => h) (Or.inr ⟨by rfl, rfl⟩) ?_ ?_
        rotate_left
        · simp only [Act.put, List.setIfInBounds_toArray, List.set_cons_zero, List.set_cons_succ, i64_w, i32_w]
          rfl
        refine pure_ (i := 8) (N := (some 58)) (v := undef) (a' := ?_) #[true, true, true, true, true, true, true, true, true, false, false, false, false, false, false, false, false, false] rfl rfl (by kernel_rfl) (fun _ _ _ h => h) (Or.inr ⟨by rfl, rfl⟩) ?_ ?_
        rotate_left
        · simp only [Act.put, List.setIfInBounds_toArray, List.set_cons_zero, List.set_cons_succ, i64_w, i32_w]
          rfl
        refine pure_ (i := 9) (N := (some 59)) (v := undef) (a' := ?_) #[true, true, true, true, true, true, true, true, true, true, false, false, false, false, false, false, false, false] rfl rfl (by kernel_rfl) (fun _ _ _ h => h) (Or.inr ⟨by rfl, rfl⟩) ?_ ?_
        rotate_left
        · simp only [Act.put, List.setIfInBounds_toArray, List.set_cons_zero, List.set_cons_succ, i64_w, i32_w]
          rfl
        refine pure_ (i := 10) (N := (some 60)) (v := undef) (a' := ?_) #[true, true, true, true, true, true, true, true, true, true, true, false, false, false, false, false, false, false] rfl rfl (by kernel_rfl) (fun _ _ _ h => h) (Or.inr ⟨by rfl, rfl⟩) ?_ ?_
        rotate_left
        · simp only [Act.put, List.setIfInBounds_toArray, List.set_cons_zero, List.set_cons_succ, i64_w, i32_w]
          rfl
        refine pure_ (i := 11) (N := (some 61)) (v := undef) (a' := ?_) #[true, true, true, true, true, true, true, true, true, true, true, true, false, false, false, false, false, false] rfl rfl (by kernel_rfl) (fun _ _ _ h => h) (Or.inr ⟨by rfl, rfl⟩) ?_ ?_
        rotate_left
        · simp only [Act.put, List.setIfInBounds_toArray, List.set_cons_zero, List.set_cons_succ, i64_w, i32_w]
          rfl
        refine pure_ (i := 12) (N := (some 62)) (v := undef) (a' := ?_) #[true, true, true, true, true, true, true, true, true, true, true, true, true, false, false, false, false, false] rfl rfl (by kernel_rfl) (fun _ _ _ h => h) (Or.inr ⟨by rfl, rfl⟩) ?_ ?_
        rotate_left
        · simp only [Act.put, List.setIfInBounds_toArray, List.set_cons_zero, List.set_cons_succ, i64_w, i32_w]
          rfl
        refine pure_ (i := 13) (N := (some 63)) (v := undef) (a' := ?_) #[true, true, true, true, true, true, true, true, true, true, true, true, true, true, false, false, false, false] rfl rfl (by kernel_rfl) (fun _ _ _ h => h) (Or.inr ⟨by rfl, rfl⟩) ?_ ?_
        rotate_left
        · simp only [Act.put, List.setIfInBounds_toArray, List.set_cons_zero, List.set_cons_succ, i64_w, i32_w]
          rfl
        refine pure_ (i := 14) (N := (some 64)) (v := undef) (a' := ?_) #[true, true, true, true, true, true, true, true, true, true, true, true, true, true, true, false, false, false] rfl rfl (by kernel_rfl) (fun _ _ _ h => h) (Or.inr ⟨by rfl, rfl⟩) ?_ ?_
        rotate_left
        · simp only [Act.put, List.setIfInBounds_toArray, List.set_cons_zero, List.set_cons_succ, i64_w, i32_w]
          rfl
        refine pure_ (i := 15) (N := (some 65)) (v := undef) (a' := ?_) #[true, true, true, true, true, true, true, true, true, true, true, true, true, true, true, true, false, false] rfl rfl (by kernel_rfl) (fun _ _ _ h => h) (Or.inr ⟨by rfl, rfl⟩) ?_ ?_
        rotate_left
        · simp only [Act.put, List.setIfInBounds_toArray, List.set_cons_zero, List.set_cons_succ, i64_w, i32_w]
          rfl
        refine pure_ (i := 16) (N := (some 66)) (v := undef) (a' := ?_) #[true, true, true, true, true, true, true, true, true, true, true, true, true, true, true, true, true, false] rfl rfl (by kernel_rfl) (fun _ _ _ h => h) (Or.inr ⟨by rfl, rfl⟩) ?_ ?_
        rotate_left
        · simp only [Act.put, List.setIfInBounds_toArray, List.set_cons_zero, List.set_cons_succ, i64_w, i32_w]
          rfl
        refine pure_ (i := 17) (N := (some 67)) (v := ?_) (a' := ?_) #[true, true, true, true, true, true, true, true, true, true, true, true, true, true, true, true, true, true] rfl rfl (by kernel_rfl) (fun _ _ _ h => h) (Or.inl ⟨by rfl, ?_⟩) ?_ ?_
        rotate_left
        · intro w'
          go_simp
          with_reducible rfl
        rotate_left
        · simp only [Act.put, List.setIfInBounds_toArray, List.set_cons_zero, List.set_cons_succ, i64_w, i32_w]
          rfl
        refine done_ (by kernel_rfl) ?_
        clear hHeld d0
        have d1 := H4.out.cells.2.1
        go_wp2
        go_ret
        refine ⟨rfl, ⟨HOK.out, .slice p9 L'.length cp9, ?_⟩, Only.early B2.out O4.out⟩
        have h8 := H4.out.of_blocks (S' := ext S w w4.drew) (fun k _ hk => ext_early B2.out.size k hk) (fun _ _ _ => rfl)
        unfold St.del
        rw [← hL'.out, if_neg (fun h => h4 h.1)]
        exact h8
theorem Ref.drop {w : World} {S : Nat → Prop} {g : Nat} {st : St} (h : Ref w S g st) (x : Int) :
    Calls Try.prog 35 #[.pointer (some ⟨g, 0, none⟩), .int .i64 x] w fun e w' => e = .returned (.int .i64 (st.dropE x)) ∧ Ref w' (ext S w w') g (st.drop x) ∧ Only S w w' := by
  unfold St.dropE St.drop
  cases ht : st.text x with
  | none =>
    refine (h.drop_none x ht).mono ?_
    rintro e w' ⟨rfl, hb⟩
    exact ⟨rfl, (h.below hb).mono (fun k _ hk => Or.inl hk), Only.of_below hb⟩
  | some s => exact h.drop_some x s ht
end Go.Proofs.Ytonjhnglcffihaa.Tab
