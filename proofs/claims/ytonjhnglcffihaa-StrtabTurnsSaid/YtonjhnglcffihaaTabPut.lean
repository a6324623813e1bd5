/- PROVED: what Put does. Conditions: those each theorem states. -/
import Derived.Test.YtonjhnglcffihaaTabFind
import Derived.Deep.RegionLaw
import Derived.BigRegion
set_option linter.unusedVariables false
set_option linter.unusedSimpArgs false
namespace Go.Proofs.Ytonjhnglcffihaa.Tab
open Go Go.RowKit Go.Proofs.Ytonjhnglcffihaa.Print Go.Proofs.YtonjhnglcffihaaW.PrintWords Go.Proofs.YtonjhnglcffihaaW.PrintLast Go.Proofs.YtonjhnglcffihaaW.PrintMore

theorem put_nil (w : World) (s : ByteArray) (h : Int) : Calls Try.prog 16 #[.pointer none, .string s, .int .i64 h] w fun e w' => e = .returned (.int .i64 2) ∧ w' = w := by
  go_enter Try.func16, Try.ntmps16
  go_wp2_with (go_at_call 31; refine (made_nil _).mono ?_; rintro e w1 ⟨rfl, rfl⟩)
  go_ret
  exact ⟨rfl, rfl⟩
theorem Tab.find_none {w : World} {S : Nat → Prop} {B : Nat} {st : St} (h : Tab w S B st) (s : ByteArray) (hs : s.size ≤ maxLen) (hf : st.find s = none) :
    Calls Try.prog 19 #[.pointer (some ⟨B, 0, none⟩), .string s] w fun e w' => e = .returned (.tuple #[.int .i64 0, .bool false]) ∧ Below w.heap.size w w' := by
  have := h.find s hs
  rw [hf] at this
  exact this
theorem Tab.find_some {w : World} {S : Nat → Prop} {B : Nat} {st : St} {x : En} (h : Tab w S B st) (s : ByteArray) (hs : s.size ≤ maxLen) (hf : st.find s = some x) :
    Calls Try.prog 19 #[.pointer (some ⟨B, 0, none⟩), .string s] w fun e w' => e = .returned (.tuple #[.int .i64 x.h, .bool true]) ∧ Below w.heap.size w w' := by
  have := h.find s hs
  rw [hf] at this
  exact this
theorem MapOf.has_text {st : St} {D : DataW Unit} (m : MapOf st.L D) (h : Int) : Maps.has D (.int .i64 h) = (st.text h).isSome := by
  rw [m.has]
  unfold St.text
  rw [Option.isSome_map]
  cases hf : st.L.find? (fun x => x.h == h) with
  | none => simpa using hf
  | some x => simpa using ⟨x, List.mem_of_find?_eq_some hf, by simpa using List.find?_some hf⟩
theorem St.find_none' {st : St} {s : ByteArray} (h : st.find s = none) : ∀ y ∈ st.L, y.s ≠ s := by
  intro y hy e
  unfold St.find at h
  rw [List.find?_eq_none] at h
  exact h y hy (by simp [e])
theorem St.text_none {st : St} {x : Int} (h : st.text x = none) : ∀ y ∈ st.L, y.h ≠ x := by
  intro y hy e
  unfold St.text at h
  rw [Option.map_eq_none_iff, List.find?_eq_none] at h
  exact h y hy (by simp [e])
theorem Tab.put_arg {w : World} {S : Nat → Prop} {B : Nat} {st : St} (h : Tab w S B st) (s : ByteArray) (x : Int) (hx : x < 1) :
    Calls Try.prog 16 #[.pointer (some ⟨B, 0, none⟩), .string s, .int .i64 x] w fun e w' => e = .returned (.int .i64 1) ∧ w' = w := by
  go_enter Try.func16, Try.ntmps16
  go_wp2_with (go_at_call 31; refine h.made.mono ?_; rintro e w1 ⟨rfl, rfl⟩)
  go_ret
  exact ⟨rfl, rfl⟩
theorem Tab.put_there {w : World} {S : Nat → Prop} {B : Nat} {st : St} (h : Tab w S B st) (s : ByteArray) (hs : s.size ≤ maxLen) (x : Int) (hx : 1 ≤ x) (hw : (Lit.int .i64 x).wf = true) (ht : ((st.find s).isSome || (st.text x).isSome) = true) :
    Calls Try.prog 16 #[.pointer (some ⟨B, 0, none⟩), .string s, .int .i64 x] w fun e w' => e = .returned (.int .i64 17) ∧ Below w.heap.size w w' := by
  have hx1 : ¬ x < 1 := by omega
  have HT := Aside0.mk h
  cases hf : st.find s with
  | some y =>
    have HF := Aside0.mk hf
    clear hf ht h
    go_enter Try.func16, Try.ntmps16
    go_wp2_with (first | (go_at_call 31; refine HT.out.made.mono ?_; rintro e w1 ⟨rfl, hw1⟩; have hw1 := hw1.symm; subst hw1) | (go_at_call 19; refine (HT.out.find_some s hs HF.out).mono ?_; rintro e w1 ⟨rfl, hb⟩; obtain ⟨_, A, bm, vs, cap, D, h1⟩ := HT.out.below hb; obtain ⟨c0, c1, c2, cf⟩ := h1.cells; have hown := h1.map; clear h1) | (at_lookup; refine lookup_ok_str _ rfl _ _ 59 rfl 3 9 mlaw Try.underlying59 Try.underlying9 (zero9 _) bm _ D rfl hown _ _ rfl (mkey _ hw) ?_; intro c hat))
    go_ret
    exact ⟨rfl, hb⟩
  | none =>
    have HF := Aside0.mk hf
    rw [hf] at ht
    have ht2 : (st.text x).isSome = true := by simpa using ht
    clear hf ht h
    go_enter Try.func16, Try.ntmps16
    go_wp2_with (first | (go_at_call 31; refine HT.out.made.mono ?_; rintro e w1 ⟨rfl, hw1⟩; have hw1 := hw1.symm; subst hw1) | (go_at_call 19; refine (HT.out.find_none s hs HF.out).mono ?_; rintro e w1 ⟨rfl, hb⟩; obtain ⟨_, A, bm, vs, cap, D, h1⟩ := HT.out.below hb; obtain ⟨c0, c1, c2, cf⟩ := h1.cells; have hown := h1.map; have hhas := (h1.mo.has_text x).trans ht2; clear h1) | (at_lookup; refine lookup_ok_str _ rfl _ _ 59 rfl 3 9 mlaw Try.underlying59 Try.underlying9 (zero9 _) bm _ D rfl hown _ _ rfl (mkey _ hw) ?_; intro c hat; rw [hhas]))
    go_ret
    exact ⟨rfl, hb⟩
set_option maxHeartbeats 4000000 in
set_option maxRecDepth 100000 in
theorem Tab.put_add {w : World} {S : Nat → Prop} {B : Nat} {st : St} (h : Tab w S B st) (s : ByteArray) (hs : s.size ≤ maxLen) (x : Int) (hx : 1 ≤ x) (hw : (Lit.int .i64 x).wf = true) (hf : st.find s = none) (ht : st.text x = none) (hq : st.q + 1 ≤ 1000)
    (hR : st.n < st.L.length + 1 → RenewOk ⟨st.L ++ [⟨s, x, st.q⟩], st.n, st.q + 1⟩ (2 * st.n)) :
    Calls Try.prog 16 #[.pointer (some ⟨B, 0, none⟩), .string s, .int .i64 x] w fun e w' => e = .returned (.int .i64 0) ∧ Tab w' (ext S w w') B (st.add s x) ∧ Only S w w' := by
  have hx1 : ¬ x < 1 := by omega
  have HT := Aside0.mk h
  have HF := Aside0.mk hf
  have ht2 : (st.text x).isSome = false := by simp [ht]
  have hn4 := h.1.pos
  have hn5 : st.n ≤ 1048576 := by have := h.1.few; have := h.1.q; omega
  have hbl := bk_lt st.n s (by omega) hn5
  have hbs := Aside0.mk (bucket_some s st.n hs (by omega) hn5)
  have HX := Aside0.mk (St.text_none ht)
  have HFN := Aside0.mk (St.find_none' hf)
  clear hf ht h
  go_enter Try.func16, Try.ntmps16
  go_wp2_with (first | (go_at_call 31; refine HT.out.made.mono ?_; rintro e w1 ⟨rfl, hw1⟩; have hw1 := hw1.symm; subst hw1) | (go_at_call 19; refine (HT.out.find_none s hs HF.out).mono ?_; rintro e w1 ⟨rfl, hb⟩; obtain ⟨_, A, bm, vs, cap, D, h1⟩ := HT.out.below hb; obtain ⟨c0, c1, c2, cf⟩ := h1.cells; have hown := h1.map; have hhas := (h1.mo.has_text x).trans ht2; have H1 := Aside0.mk h1; clear h1) | (at_lookup; refine lookup_ok_str _ rfl _ _ 59 rfl 3 9 mlaw Try.underlying59 Try.underlying9 (zero9 _) bm _ D rfl hown _ _ rfl (mkey _ hw) ?_; intro c hat; rw [hhas]) | (go_at_call 32; refine (strtab_bucket.calls _ _ _ _ _ hbs.out).mono ?_; rintro e w2 ⟨rfl, hd⟩; obtain ⟨n2, hd2⟩ := hd.out; subst hd2))
  have H2 : Aside0 (TabW (w1.drewN n2) S B A bm vs cap D st) := ⟨H1.out.below (by first | exact pw_below_drewN (Below.refl _ _) _)⟩
  have HBW : Aside0 (Below w.heap.size w (w1.drewN n2)) := ⟨pw_below_drewN hb _⟩
  clear hhas hat hown c0 c1 c2 cf hd hb
  generalize hw2 : w1.drewN n2 = w2 at H2 HBW ⊢
  clear hw2
  obtain ⟨c0, c1, c2, cf⟩ := H2.out.cells
  have hcell := H2.out.ch.cell hbl
  have hfr := H2.out.ch.frozen (bk st.n s)
  have HR := Aside0.mk (H2.out.row _ hbl)
  obtain ⟨nAB, nmB, nmA, hoff⟩ := H2.out.off
  have HO := Aside0.mk (hoff _ hbl)
  clear hoff
  obtain ⟨i0, hi0, hz0, hz1, hz2⟩ := info_parts info65
  have hb0 : (0 : Int) ≤ (bk st.n s : Int) := by omega
  have hb1 : (bk st.n s : Int) < (st.n : Int) := by omega
  have HN : Aside0 ((st.chain (bk st.n s)).length ≤ 1000) := ⟨Nat.le_trans (List.length_filter_le _ _) (Nat.le_trans (Nat.le_of_eq H2.out.mo.size.symm) (Nat.le_trans H2.out.map.size_le HT.out.1.q))⟩
  have c0a : ∀ o, (w2.drew.alloc o).cell? ⟨B, 0, none⟩ = some (.slice (some ⟨A, 0, none⟩) st.n cap) := fun o => (World.cell?_of_block (a := ⟨B, 0, none⟩) (Below.heap_alloc w2.drew o B H2.out.lts.1)).trans c0
  have c2a : ∀ o, (w2.drew.alloc o).cell? ⟨B, 2, none⟩ = some (.int .i64 (st.q : Int)) := fun o => (World.cell?_of_block (a := ⟨B, 2, none⟩) (Below.heap_alloc w2.drew o B H2.out.lts.1)).trans c2
  have hcella : ∀ o, (w2.drew.alloc o).cell? ⟨A, bk st.n s, none⟩ = some (vs (bk st.n s)) := fun o => (World.cell?_of_block (a := ⟨A, bk st.n s, none⟩) (Below.heap_alloc w2.drew o A H2.out.ch.lt)).trans hcell
  refine start_ (n := 23) (S := fun w' => w'.cell? ⟨B, 0, none⟩ = some (.slice (some ⟨A, 0, none⟩) st.n cap) ∧ w'.cell? ⟨B, 2, none⟩ = some (.int .i64 (st.q : Int)) ∧ w'.cell? ⟨A, bk st.n s, none⟩ = some (vs (bk st.n s))) (ds := [22]) #[false, false, false, false, false, false, false, false, false, false, false, false, false, false, false, false, false, false, false, false, false, false, false] (by kernel_rfl) rfl rfl ⟨c0, c2, hcell⟩ (fun hHeld => ?_)
  have HRD : Aside0 ((w2.drew.alloc (.cells #[.string s, .int .i64 x, .int .i64 (st.q : Int)] 65)).ownsRow 0 65 3 (vs (bk st.n s)) (st.chain (bk st.n s)).length (flat (st.chain (bk st.n s)))) := ⟨(World.ownsRow.alloc (w := w2.drew) HR.out _)⟩
  have HNW : Aside0 (∀ j u, [.string s, .int .i64 x, .int .i64 (st.q : Int)][j]? = some u → (w2.drew.alloc (.cells #[.string s, .int .i64 x, .int .i64 (st.q : Int)] 65)).cell? ((⟨w2.drew.heap.size, 0, none⟩ : Addr).add j) = some u) := ⟨World.news_of_block (w := w2.drew.alloc (.cells #[.string s, .int .i64 x, .int .i64 (st.q : Int)] 65)) (B := w2.drew.heap.size) (heap_alloc_new _ _)⟩
  refine pure_ (i := 0) (N := (some 43)) (v := ?_) (a' := ?_) #[true, false, false, false, false, false, false, false, false, false, false, false, false, false, false, false, false, false, false, false, false, false, false] rfl rfl (by kernel_rfl) (fun _ _ _ h => h) (Or.inl ⟨by rfl, ?_⟩) ?_ ?_
  rotate_left
  · intro w'
    go_simp
    with_reducible rfl
  rotate_left
  · simp only [Act.put, List.setIfInBounds_toArray, List.set_cons_zero, List.set_cons_succ, i64_w, i32_w]
    rfl
  refine pure_ (i := 1) (N := (some 44)) (v := ?_) (a' := ?_) #[true, true, false, false, false, false, false, false, false, false, false, false, false, false, false, false, false, false, false, false, false, false, false] rfl rfl (by kernel_rfl) (fun _ _ _ h => h) (Or.inl ⟨by rfl, ?_⟩) ?_ ?_
  rotate_left
  · intro w'
    go_simp
    with_reducible rfl
  rotate_left
  · simp only [Act.put, List.setIfInBounds_toArray, List.set_cons_zero, List.set_cons_succ, i64_w, i32_w]
    rfl
  refine pure_ (i := 2) (N := (some 45)) (v := ?_) (a' := ?_) #[true, true, true, false, false, false, false, false, false, false, false, false, false, false, false, false, false, false, false, false, false, false, false] rfl rfl (by kernel_rfl) (fun _ _ _ h => h) (Or.inl ⟨by rfl, ?_⟩) ?_ ?_
  rotate_left
  · intro w'
    go_simp
    with_reducible rfl
  rotate_left
  · simp only [Act.put, List.setIfInBounds_toArray, List.set_cons_zero, List.set_cons_succ, i64_w, i32_w]
    rfl
  refine take_ (i := 3) (N := (some 46)) (v := ?_) (a' := ?_) #[true, true, true, true, false, false, false, false, false, false, false, false, false, false, false, false, false, false, false, false, false, false, false] rfl rfl (by kernel_rfl) (fun _ _ _ h => h) (Or.inl ⟨by rfl, ?_⟩) hHeld ?_ ?_
  rotate_left
  · rintro w' ⟨s0, s1, s2⟩
    go_simp
    with_reducible rfl
  rotate_left
  · simp only [Act.put, List.setIfInBounds_toArray, List.set_cons_zero, List.set_cons_succ, i64_w, i32_w]
    rfl
  refine pure_ (i := 4) (N := (some 47)) (v := ?_) (a' := ?_) #[true, true, true, true, true, false, false, false, false, false, false, false, false, false, false, false, false, false, false, false, false, false, false] rfl rfl (by kernel_rfl) (fun _ _ _ h => h) (Or.inl ⟨by rfl, ?_⟩) ?_ ?_
  rotate_left
  · intro w'
    go_simp
    with_reducible rfl
  rotate_left
  · simp only [Act.put, List.setIfInBounds_toArray, List.set_cons_zero, List.set_cons_succ, i64_w, i32_w]
    rfl
  refine pure_ (i := 5) (N := (some 48)) (v := ?_) (a' := ?_) #[true, true, true, true, true, true, false, false, false, false, false, false, false, false, false, false, false, false, false, false, false, false, false] rfl rfl (by kernel_rfl) (fun _ _ _ h => h) (Or.inl ⟨by rfl, ?_⟩) ?_ ?_
  rotate_left
  · intro w'
    go_simp
    with_reducible rfl
  rotate_left
  · simp only [Act.put, List.setIfInBounds_toArray, List.set_cons_zero, List.set_cons_succ, i64_w, i32_w]
    rfl
  refine pure_ (i := 6) (N := (some 49)) (v := ?_) (a' := ?_) #[true, true, true, true, true, true, true, false, false, false, false, false, false, false, false, false, false, false, false, false, false, false, false] rfl rfl (by kernel_rfl) (fun _ _ _ h => h) (Or.inl ⟨by rfl, ?_⟩) ?_ ?_
  rotate_left
  · intro w'
    go_simp
    with_reducible rfl
  rotate_left
  · simp only [Act.put, List.setIfInBounds_toArray, List.set_cons_zero, List.set_cons_succ, i64_w, i32_w]
    rfl
  refine pure_ (i := 7) (N := (some 50)) (v := ?_) (a' := ?_) #[true, true, true, true, true, true, true, true, false, false, false, false, false, false, false, false, false, false, false, false, false, false, false] rfl rfl (by kernel_rfl) (fun _ _ _ h => h) (Or.inl ⟨by rfl, ?_⟩) ?_ ?_
  rotate_left
  · intro w'
    go_simp
    with_reducible rfl
  rotate_left
  · simp only [Act.put, List.setIfInBounds_toArray, List.set_cons_zero, List.set_cons_succ, i64_w, i32_w]
    rfl
  refine take_ (i := 8) (N := (some 51)) (v := ?_) (a' := ?_) #[true, true, true, true, true, true, true, true, true, false, false, false, false, false, false, false, false, false, false, false, false, false, false] rfl rfl (by kernel_rfl) (fun _ _ _ h => h) (Or.inl ⟨by rfl, ?_⟩) hHeld ?_ ?_
  rotate_left
  · rintro w' ⟨s0, s1, s2⟩
    go_simp
    with_reducible rfl
  rotate_left
  · simp only [Act.put, List.setIfInBounds_toArray, List.set_cons_zero, List.set_cons_succ, i64_w, i32_w]
    rfl
  refine pure_ (i := 9) (N := (some 52)) (v := ?_) (a' := ?_) #[true, true, true, true, true, true, true, true, true, true, false, false, false, false, false, false, false, false, false, false, false, false, false] rfl rfl (by kernel_rfl) (fun _ _ _ h => h) (Or.inl ⟨by rfl, ?_⟩) ?_ ?_
  rotate_left
  · intro w'
    go_simp
    with_reducible rfl
  rotate_left
  · simp only [Act.put, List.setIfInBounds_toArray, List.set_cons_zero, List.set_cons_succ, i64_w, i32_w]
    rfl
  refine pure_ (i := 10) (N := (some 53)) (v := ?_) (a' := ?_) #[true, true, true, true, true, true, true, true, true, true, true, false, false, false, false, false, false, false, false, false, false, false, false] rfl rfl (by kernel_rfl) (fun _ _ _ h => h) (Or.inl ⟨by rfl, ?_⟩) ?_ ?_
  rotate_left
  · intro w'
    go_simp
    with_reducible rfl
  rotate_left
  · simp only [Act.put, List.setIfInBounds_toArray, List.set_cons_zero, List.set_cons_succ, i64_w, i32_w]
    rfl
  refine take_ (i := 11) (N := (some 54)) (v := ?_) (a' := ?_) #[true, true, true, true, true, true, true, true, true, true, true, true, false, false, false, false, false, false, false, false, false, false, false] rfl rfl (by kernel_rfl) (fun _ _ _ h => h) (Or.inl ⟨by rfl, ?_⟩) hHeld ?_ ?_
  rotate_left
  · rintro w' ⟨s0, s1, s2⟩
    go_simp
    with_reducible rfl
  rotate_left
  · simp only [Act.put, List.setIfInBounds_toArray, List.set_cons_zero, List.set_cons_succ, i64_w, i32_w]
    rfl
  refine pure_ (i := 12) (N := (some 55)) (v := ?_) (a' := ?_) #[true, true, true, true, true, true, true, true, true, true, true, true, true, false, false, false, false, false, false, false, false, false, false] rfl rfl (by kernel_rfl) (fun _ _ _ h => h) (Or.inl ⟨by rfl, ?_⟩) ?_ ?_
  rotate_left
  · intro w'
    go_simp
    with_reducible rfl
  rotate_left
  · simp only [Act.put, List.setIfInBounds_toArray, List.set_cons_zero, List.set_cons_succ, i64_w, i32_w]
    rfl
  refine pure_ (i := 13) (N := (some 56)) (v := ?_) (a' := ?_) #[true, true, true, true, true, true, true, true, true, true, true, true, true, true, false, false, false, false, false, false, false, false, false] rfl rfl (by kernel_rfl) (fun _ _ _ h => h) (Or.inl ⟨by rfl, ?_⟩) ?_ ?_
  rotate_left
  · intro w'
    go_simp
    with_reducible rfl
  rotate_left
  · simp only [Act.put, List.setIfInBounds_toArray, List.set_cons_zero, List.set_cons_succ, i64_w, i32_w]
    rfl
  refine pure_ (i := 14) (N := (some 57)) (v := ?_) (a' := ?_) #[true, true, true, true, true, true, true, true, true, true, true, true, true, true, true, false, false, false, false, false, false, false, false] rfl rfl (by kernel_rfl) (fun _ _ _ h => h) (Or.inl ⟨by rfl, ?_⟩) ?_ ?_
  rotate_left
  · intro w'
    go_simp
    with_reducible rfl
  rotate_left
  · simp only [Act.put, List.setIfInBounds_toArray, List.set_cons_zero, List.set_cons_succ, i64_w, i32_w]
    rfl
  refine pure_ (i := 15) (N := (some 58)) (v := ?_) (a' := ?_) #[true, true, true, true, true, true, true, true, true, true, true, true, true, true, true, true, false, false, false, false, false, false, false] rfl rfl (by kernel_rfl) (fun _ _ _ h => h) (Or.inl ⟨by rfl, ?_⟩) ?_ ?_
  rotate_left
  · intro w'
    go_simp
    with_reducible rfl
  rotate_left
  · simp only [Act.put, List.setIfInBounds_toArray, List.set_cons_zero, List.set_cons_succ, i64_w, i32_w]
    rfl
  refine pure_ (i := 16) (N := (some 59)) (v := ?_) (a' := ?_) #[true, true, true, true, true, true, true, true, true, true, true, true, true, true, true, true, true, false, false, false, false, false, false] rfl rfl (by kernel_rfl) (fun _ _ _ h => h) (Or.inl ⟨by rfl, ?_⟩) ?_ ?_
  rotate_left
  · intro w'
    go_simp
    with_reducible rfl
  rotate_left
  · simp only [Act.put, List.setIfInBounds_toArray, List.set_cons_zero, List.set_cons_succ, i64_w, i32_w]
    rfl
  refine take_ (i := 17) (N := (some 60)) (v := ?_) (a' := ?_) #[true, true, true, true, true, true, true, true, true, true, true, true, true, true, true, true, true, true, false, false, false, false, false] rfl rfl (by kernel_rfl) (fun _ _ _ h => h) (Or.inl ⟨by rfl, ?_⟩) hHeld ?_ ?_
  rotate_left
  · rintro w' ⟨s0, s1, s2⟩
    go_simp
    with_reducible rfl
  rotate_left
  · simp only [Act.put, List.setIfInBounds_toArray, List.set_cons_zero, List.set_cons_succ, i64_w, i32_w]
    rfl
  refine pure_ (i := 18) (N := (some 61)) (v := ?_) (a' := ?_) #[true, true, true, true, true, true, true, true, true, true, true, true, true, true, true, true, true, true, true, false, false, false, false] rfl rfl (by kernel_rfl) (fun _ _ _ h => h) (Or.inl ⟨by rfl, ?_⟩) ?_ ?_
  rotate_left
  · intro w'
    go_simp
    with_reducible rfl
  rotate_left
  · simp only [Act.put, List.setIfInBounds_toArray, List.set_cons_zero, List.set_cons_succ, i64_w, i32_w]
    rfl
  refine one_ (i := 19) (N := (some 62)) #[true, true, true, true, true, true, true, true, true, true, true, true, true, true, true, true, true, true, true, true, false, false, false] rfl rfl (by kernel_rfl) (by decide) (fun K hK => ?_)
  go_simp
  refine hK.out _ _ ⟨c0a _, c2a _, hcella _⟩ (fun hHeld => ?_)
  clear hK K
  refine one_ (i := 20) (N := (some 63)) #[true, true, true, true, true, true, true, true, true, true, true, true, true, true, true, true, true, true, true, true, true, false, false] rfl rfl (by kernel_rfl) (by decide) (fun K hK => ?_)
  refine step_append_lies _ rfl (.tmp 54) (.tmp 62) 63 rfl 0 65 i0 _ 3 32 Try.underlying63 hi0 hz0 hz1 hz2 rfl (by decide) (vs (bk st.n s)) (st.chain (bk st.n s)).length (flat (st.chain (bk st.n s))) rfl HRD.out ⟨w2.heap.size, 0, none⟩ 1 1 [.string s, .int .i64 x, .int .i64 (st.q : Int)] rfl rfl HNW.out (by simp [Value.oneCell']) (by decide) (by have := HN.out; unfold maxLen; omega) (by have := HN.out; omega) (Nat.zero_le _) _ rfl ?_
  intro g cp w3 hown3 hgrow3 hat3 hlt3
  have HA3 := Aside0.mk (far3 hgrow3 HO.out.1 H2.out.ch.lt)
  have HB3 := Aside0.mk (far3 hgrow3 HO.out.2.1 H2.out.lts.1)
  have hcell3 := (World.cell?_of_block (a := ⟨A, bk st.n s, none⟩) HA3.out).trans hcell
  have hfr3 := (World.frozen?_of_block (a := ⟨A, bk st.n s, none⟩) HA3.out).trans hfr
  have HG3 := Aside0.mk hgrow3
  have HO3 := Aside0.mk hown3
  have HT3 := Aside0.mk hat3
  have HL3 := Aside0.mk hlt3
  clear hgrow3 hown3 hat3 hlt3
  refine hK.out _ _ ⟨(World.cell?_of_block (a := ⟨B, 0, none⟩) HB3.out).trans c0, (World.cell?_of_block (a := ⟨B, 2, none⟩) HB3.out).trans c2, hcell3⟩ (fun hHeld => ?_)
  clear hK K
  refine norm_ (a' := ?_) ?_ ?_
  rotate_left
  · simp only [Act.put, List.setIfInBounds_toArray, List.set_cons_zero, List.set_cons_succ, i64_w, i32_w]
    rfl
  refine pure_ (i := 21) (N := (some 64)) (v := ?_) (a' := ?_) #[true, true, true, true, true, true, true, true, true, true, true, true, true, true, true, true, true, true, true, true, true, true, false] rfl rfl (by kernel_rfl) (fun _ _ _ h => h) (Or.inl ⟨by rfl, ?_⟩) ?_ ?_
  rotate_left
  · intro w'
    go_simp
    with_reducible rfl
  rotate_left
  · simp only [Act.put, List.setIfInBounds_toArray, List.set_cons_zero, List.set_cons_succ, i64_w, i32_w]
    rfl
  refine last_ (i := 22) (N := none) #[true, true, true, true, true, true, true, true, true, true, true, true, true, true, true, true, true, true, true, true, true, true, true] rfl rfl (by kernel_rfl) (by decide) (fun K hK => ?_)
  go_simp
  refine hK.out _ _ ?_
  clear hK K
  refine done_ (by kernel_rfl) ?_
  have HW4 : Aside0 (∃ w4, w3.setCell ⟨A, bk st.n s, none⟩ (.slice (some ⟨g, 0, none⟩) ((st.chain (bk st.n s)).length + 1) cp) = w4) := ⟨_, rfl⟩
  obtain ⟨w4, hw4⟩ := HW4.out
  rw [hw4]
  have HW4 := Aside0.mk hw4
  have HB4 : Aside0 (w4.heap[B]? = w2.heap[B]?) := ⟨by rw [← hw4]; exact (Below.heap_setCell _ _ _ _ nAB.symm).trans HB3.out⟩
  have hown4 : w4.ownsMap Try.prog 3 (plainElem Try.prog 9) bm st.q D := by
    rw [← hw4]
    obtain ⟨es, clock, e, r⟩ := H2.out.map
    exact ⟨es, clock, (Below.heap_setCell _ _ _ _ nmA).trans ((far3 HG3.out HO.out.2.2 H2.out.lts.2.2.1).trans e), r⟩
  clear hw4 c0 c1 c2 cf hcell hfr c0a c2a hcella hcell3 hfr3 hHeld HRD HNW hz0 hz1 hz2 hi0
  have c0 := (World.cell?_of_block (a := ⟨B, 0, none⟩) HB4.out).trans H2.out.cells.1
  have c1 := (World.cell?_of_block (a := ⟨B, 1, none⟩) HB4.out).trans H2.out.cells.2.1
  have c2 := (World.cell?_of_block (a := ⟨B, 2, none⟩) HB4.out).trans H2.out.cells.2.2.1
  have cf := fun i => (World.frozen?_of_block (a := ⟨B, i, none⟩) HB4.out).trans (H2.out.cells.2.2.2 i)
  have hqm : st.q < maxLen := by have := HT.out.1.q; unfold maxLen; omega
  have hwq : wrap64 ((st.q : Int) + 1) = ((st.q + 1 : Nat) : Int) := by have := HT.out.1.q; unfold wrap64; omega
  have tok := True.intro
  go_wp2_with (first | (at_mapUpdate; have _t := tok; refine wpList_mapUpdate_own _ rfl _ _ _ 59 rfl 3 9 mlaw Try.underlying59 _ bm st.q D rfl hown4 hqm _ _ _ rfl rfl (mkey _ hw) _ [] (plainElem_string Try.underlying9 hs) ?_; intro w5 hown5 hgrow5; clear tok; have HG5 := Aside0.mk hgrow5; have HB5 : Aside0 (w5.heap[B]? = w2.heap[B]?) := ⟨(hgrow5.block B (Array.getElem?_eq_some_iff.1 (HB4.out.trans H2.out.tb)).1 (by simpa using nmB.symm)).trans HB4.out⟩; have c2' := (World.cell?_of_block (a := ⟨B, 2, none⟩) HB5.out).trans H2.out.cells.2.2.1; have cf' := fun i => (World.frozen?_of_block (a := ⟨B, i, none⟩) HB5.out).trans (H2.out.cells.2.2.2 i); have HO5 := Aside0.mk hown5; clear hown5 hgrow5))
  have HE : Aside0 (∀ y ∈ st.L, y.h ≠ x) := ⟨HX.out⟩
  have HM5 := Aside0.mk (H2.out.mo.add (H2.out.map.tidy mlaw) ⟨s, x, st.q⟩ hw HE.out)
  obtain ⟨H6, ON6⟩ := H2.out.added (x := ⟨s, x, st.q⟩) hbl HG3.out HO3.out HT3.out HL3.out HO5.out HM5.out (by rw [HW4.out]; exact HG5.out)
  rw [show (Value.int .i64 ((st.q : Int) + 1)) = .int .i64 ((st.q + 1 : Nat) : Int) from rfl]
  clear c0 c1 c2 cf c2' cf' HG3 HO3 HT3 HL3 HG5 HB5 HB4 HW4 HO HR HN HA3 HB3 hown4
  generalize w5.setCell ⟨B, 2, none⟩ (.int .i64 ((st.q + 1 : Nat) : Int)) = w6 at *
  have H6 := Aside0.mk H6
  have ON6 := Aside0.mk ON6
  obtain ⟨c0, c1, c2, cf⟩ := H6.out.cells
  have hown6 := H6.out.map
  have hsz5 : Maps.size (D.put (.int .i64 x) (.lit (.string s.data.toList))) = st.L.length + 1 := by have := H6.out.mo.size; simpa using this
  dsimp only at c0 c1 c2 hown6
  refine start_ (n := 11) (S := fun w' => w'.cell? ⟨B, 0, none⟩ = some (.slice (some ⟨A, 0, none⟩) st.n cap) ∧ w'.cell? ⟨B, 1, none⟩ = some (.map (some bm)) ∧ w'.ownsMap Try.prog 3 (plainElem Try.prog 9) bm (st.q + 1) (D.put (.int .i64 x) (.lit (.string s.data.toList)))) (ds := []) #[false, false, false, false, false, false, false, false, false, false, false] (by kernel_rfl) rfl rfl ⟨c0, c1, hown6⟩ (fun hHeld => ?_)
  refine pure_ (i := 0) (N := (some 78)) (v := ?_) (a' := ?_) #[true, false, false, false, false, false, false, false, false, false, false] rfl rfl (by kernel_rfl) (fun _ _ _ h => h) (Or.inl ⟨by rfl, ?_⟩) ?_ ?_
  rotate_left
  · intro w'
    go_simp
    with_reducible rfl
  rotate_left
  · simp only [Act.put, List.setIfInBounds_toArray, List.set_cons_zero, List.set_cons_succ, i64_w, i32_w]
    rfl
  refine pure_ (i := 1) (N := (some 79)) (v := ?_) (a' := ?_) #[true, true, false, false, false, false, false, false, false, false, false] rfl rfl (by kernel_rfl) (fun _ _ _ h => h) (Or.inl ⟨by rfl, ?_⟩) ?_ ?_
  rotate_left
  · intro w'
    go_simp
    with_reducible rfl
  rotate_left
  · simp only [Act.put, List.setIfInBounds_toArray, List.set_cons_zero, List.set_cons_succ, i64_w, i32_w]
    rfl
  refine pure_ (i := 2) (N := (some 80)) (v := ?_) (a' := ?_) #[true, true, true, false, false, false, false, false, false, false, false] rfl rfl (by kernel_rfl) (fun _ _ _ h => h) (Or.inl ⟨by rfl, ?_⟩) ?_ ?_
  rotate_left
  · intro w'
    go_simp
    with_reducible rfl
  rotate_left
  · simp only [Act.put, List.setIfInBounds_toArray, List.set_cons_zero, List.set_cons_succ, i64_w, i32_w]
    rfl
  refine take_ (i := 3) (N := (some 81)) (v := ?_) (a' := ?_) #[true, true, true, true, false, false, false, false, false, false, false] rfl rfl (by kernel_rfl) (fun _ _ _ h => h) (Or.inl ⟨by rfl, ?_⟩) hHeld ?_ ?_
  rotate_left
  · rintro w' ⟨s0, s1, s2⟩
    go_simp
    with_reducible rfl
  rotate_left
  · simp only [Act.put, List.setIfInBounds_toArray, List.set_cons_zero, List.set_cons_succ, i64_w, i32_w]
    rfl
  refine take_ (i := 4) (N := (some 82)) (v := .int .i64 ((st.L.length + 1 : Nat) : Int)) (a' := ?_) #[true, true, true, true, true, false, false, false, false, false, false] rfl rfl (by kernel_rfl) (fun _ _ _ h => h) (Or.inl ⟨by rfl, ?_⟩) hHeld ?_ ?_
  · rintro w' ⟨s0, s1, s2⟩
    have hl := s2.len Try.underlying59 3
    rw [hsz5] at hl
    simp [execOp, resolve, invoke, builtin, Act.eval, hl, Result.andThen]
  rotate_left
  · simp only [Act.put, List.setIfInBounds_toArray, List.set_cons_zero, List.set_cons_succ, i64_w, i32_w]
    rfl
  refine pure_ (i := 5) (N := (some 83)) (v := ?_) (a' := ?_) #[true, true, true, true, true, true, false, false, false, false, false] rfl rfl (by kernel_rfl) (fun _ _ _ h => h) (Or.inl ⟨by rfl, ?_⟩) ?_ ?_
  rotate_left
  · intro w'
    go_simp
    with_reducible rfl
  rotate_left
  · simp only [Act.put, List.setIfInBounds_toArray, List.set_cons_zero, List.set_cons_succ, i64_w, i32_w]
    rfl
  refine pure_ (i := 6) (N := (some 84)) (v := ?_) (a' := ?_) #[true, true, true, true, true, true, true, false, false, false, false] rfl rfl (by kernel_rfl) (fun _ _ _ h => h) (Or.inl ⟨by rfl, ?_⟩) ?_ ?_
  rotate_left
  · intro w'
    go_simp
    with_reducible rfl
  rotate_left
  · simp only [Act.put, List.setIfInBounds_toArray, List.set_cons_zero, List.set_cons_succ, i64_w, i32_w]
    rfl
  refine pure_ (i := 7) (N := (some 85)) (v := ?_) (a' := ?_) #[true, true, true, true, true, true, true, true, false, false, false] rfl rfl (by kernel_rfl) (fun _ _ _ h => h) (Or.inl ⟨by rfl, ?_⟩) ?_ ?_
  rotate_left
  · intro w'
    go_simp
    with_reducible rfl
  rotate_left
  · simp only [Act.put, List.setIfInBounds_toArray, List.set_cons_zero, List.set_cons_succ, i64_w, i32_w]
    rfl
  refine take_ (i := 8) (N := (some 86)) (v := ?_) (a' := ?_) #[true, true, true, true, true, true, true, true, true, false, false] rfl rfl (by kernel_rfl) (fun _ _ _ h => h) (Or.inl ⟨by rfl, ?_⟩) hHeld ?_ ?_
  rotate_left
  · rintro w' ⟨s0, s1, s2⟩
    go_simp
    with_reducible rfl
  rotate_left
  · simp only [Act.put, List.setIfInBounds_toArray, List.set_cons_zero, List.set_cons_succ, i64_w, i32_w]
    rfl
  refine pure_ (i := 9) (N := (some 87)) (v := ?_) (a' := ?_) #[true, true, true, true, true, true, true, true, true, true, false] rfl rfl (by kernel_rfl) (fun _ _ _ h => h) (Or.inl ⟨by rfl, ?_⟩) ?_ ?_
  rotate_left
  · intro w'
    go_simp
    with_reducible rfl
  rotate_left
  · simp only [Act.put, List.setIfInBounds_toArray, List.set_cons_zero, List.set_cons_succ, i64_w, i32_w]
    rfl
  refine pure_ (i := 10) (N := (some 88)) (v := ?_) (a' := ?_) #[true, true, true, true, true, true, true, true, true, true, true] rfl rfl (by kernel_rfl) (fun _ _ _ h => h) (Or.inl ⟨by rfl, ?_⟩) ?_ ?_
  rotate_left
  · intro w'
    go_simp
    with_reducible rfl
  rotate_left
  · simp only [Act.put, List.setIfInBounds_toArray, List.set_cons_zero, List.set_cons_succ, i64_w, i32_w]
    rfl
  refine done_ (by kernel_rfl) ?_
  have H6 : Aside0 (TabW w6.drew _ B A bm _ cap _ _) := ⟨H6.out.below ((Below.refl _ _).drew)⟩
  have ON6 := Aside0.mk ON6.out.drew
  clear c1 c2 cf hown6 hsz5 hHeld HM5 HO5
  by_cases hr : st.n < st.L.length + 1
  · have hr0 : (st.n : Int) < ((st.L.length + 1 : Nat) : Int) := by omega
    have HR := Aside0.mk (hR hr)
    go_wp2_with (first | (go_at_call 33; rw [show (2 * (st.n : Int)) = ((2 * st.n : Nat) : Int) by omega]; refine (HR.out _ _ _ _ _ _ _ _ H6.out).mono ?_; rintro e w7 ⟨rfl, HT7, HO7⟩))
    go_ret
    refine ⟨rfl, ⟨HT.out.1.added hs hw hx HFN.out HX.out hq, ?_⟩, Only.early HBW.out (only_ext ON6.out HO7)⟩
    obtain ⟨A', bm', vs', cap', D', h7⟩ := HT7
    refine ⟨A', bm', vs', cap', D', ?_⟩
    have h8 := h7.mono (S' := ext S w w7) (fun k _ hk => ext_early HBW.out.size k (ext_ext ON6.out.size HO7.size k hk))
    unfold St.add
    rw [if_pos hr]
    exact h8
  · have hr0 : ¬ (st.n : Int) < ((st.L.length + 1 : Nat) : Int) := by omega
    go_wp2
    go_ret
    refine ⟨rfl, ⟨HT.out.1.added hs hw hx HFN.out HX.out hq, ?_⟩, Only.early HBW.out ON6.out⟩
    have h8 := H6.out.mono (S' := ext S w w6.drew) (fun k _ hk => ext_early HBW.out.size k hk)
    unfold St.add
    rw [if_neg hr]
    exact ⟨A, bm, _, cap, _, h8⟩
end Go.Proofs.Ytonjhnglcffihaa.Tab
