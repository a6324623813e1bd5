/- PROVED: the document's Put. Conditions: those each theorem states. -/
import Derived.Test.YtonjhnglcffihaaRefTab
set_option linter.unusedVariables false
set_option linter.unusedSimpArgs false
namespace Go.Proofs.Ytonjhnglcffihaa.Tab
open Go Go.RowKit Go.Proofs.Ytonjhnglcffihaa.Print Go.Proofs.YtonjhnglcffihaaW.PrintWords Go.Proofs.YtonjhnglcffihaaW.PrintLast Go.Proofs.YtonjhnglcffihaaW.PrintMore
theorem Ref.find_as {w : World} {S : Nat → Prop} {g : Nat} {st : St} {o : Option En} (h : Ref w S g st) (s : ByteArray) (hf : st.find s = o) :
    Calls Try.prog 25 #[.pointer (some ⟨g, 0, none⟩), .string s] w fun e w' => e = .returned (.tuple #[.int .i64 ((o.map En.h).getD 0), .bool o.isSome]) ∧ Below w.heap.size w w' := by
  have := h.find s
  rw [hf] at this
  exact this
theorem Ref.text_as {w : World} {S : Nat → Prop} {g : Nat} {st : St} {o : Option ByteArray} (h : Ref w S g st) (s : Int) (hf : st.text s = o) :
    Calls Try.prog 26 #[.pointer (some ⟨g, 0, none⟩), .int .i64 s] w fun e w' => e = .returned (.tuple #[.string (o.getD ByteArray.empty), .bool o.isSome]) ∧ Below w.heap.size w w' := by
  have := h.text s
  rw [hf] at this
  exact this
theorem grown_early {w w2 w3 : World} {row : Option Nat} (hb : Below w.heap.size w w2) (h : w2.grownBy w3 row) (hr : ∀ k, row = some k → k < w.heap.size) : w.grownBy w3 row :=
  ⟨h.os.trans hb.os, h.tape.trans hb.tape, h.output.trans hb.output, Nat.le_trans hb.size h.size, fun k hk hne => (h.block k (Nat.lt_of_lt_of_le hk hb.size) hne).trans (hb.block k hk)⟩
theorem own_snoc {w : World} {base : Nat} {v : Value} {L : List En} {x : En} (h : w.ownsRow base 68 2 v (L.length + 1) (flat2 L ++ [Value.string x.s, Value.int .i64 x.h])) : w.ownsRow base 68 2 v (L ++ [x]).length (flat2 (L ++ [x])) := by
  rw [flat2_append, List.length_append]
  exact h
theorem Ref.put_arg {w : World} {S : Nat → Prop} {g : Nat} {st : St} (h : Ref w S g st) (s : ByteArray) (x : Int) (hx : x < 1) :
    Calls Try.prog 34 #[.pointer (some ⟨g, 0, none⟩), .string s, .int .i64 x] w fun e w' => e = .returned (.int .i64 1) ∧ Below w.heap.size w w' := by
  go_enter Try.func34, Try.ntmps34
  go_wp2
  go_ret
  exact ⟨rfl, Below.refl _ _⟩
set_option maxHeartbeats 4000000 in
set_option maxRecDepth 100000 in
theorem Ref.put_there {w : World} {S : Nat → Prop} {g : Nat} {st : St} (h : Ref w S g st) (s : ByteArray) (x : Int) (hx : 1 ≤ x) (of : Option En) (ot : Option ByteArray) (hf : st.find s = of) (ht : st.text x = ot) (hor : (of.isSome || ot.isSome) = true) :
    Calls Try.prog 34 #[.pointer (some ⟨g, 0, none⟩), .string s, .int .i64 x] w fun e w' => e = .returned (.int .i64 17) ∧ Below w.heap.size w w' := by
  have hx1 : ¬ x < 1 := by omega
  have HT := Aside0.mk h
  have HF := Aside0.mk hf
  have HX := Aside0.mk ht
  clear h hf ht
  cases of with
  | some y =>
    go_enter Try.func34, Try.ntmps34
    go_wp2_with (first
      | (go_at_call 25; refine (HT.out.find_as s HF.out).mono ?_; rintro e w1 ⟨rfl, b1⟩; have H1 := Aside0.mk (HT.out.below b1); have B1 := Aside0.mk b1; clear b1)
      | (go_at_call 26; refine (H1.out.text_as x HX.out).mono ?_; rintro e w2 ⟨rfl, b2⟩; have B2 := Aside0.mk (B1.out.trans (b2.mono B1.out.size)); clear b2))
    go_ret
    exact ⟨rfl, B2.out⟩
  | none =>
    cases ot with
    | none => simp at hor
    | some t =>
      go_enter Try.func34, Try.ntmps34
      go_wp2_with (first
        | (go_at_call 25; refine (HT.out.find_as s HF.out).mono ?_; rintro e w1 ⟨rfl, b1⟩; have H1 := Aside0.mk (HT.out.below b1); have B1 := Aside0.mk b1; clear b1)
        | (go_at_call 26; refine (H1.out.text_as x HX.out).mono ?_; rintro e w2 ⟨rfl, b2⟩; have B2 := Aside0.mk (B1.out.trans (b2.mono B1.out.size)); clear b2))
      go_ret
      exact ⟨rfl, B2.out⟩
set_option maxHeartbeats 4000000 in
set_option maxRecDepth 100000 in
theorem Ref.put_add {w : World} {S : Nat → Prop} {g : Nat} {st : St} (h : Ref w S g st) (s : ByteArray) (hs : s.size ≤ maxLen) (x : Int) (hx : 1 ≤ x) (hw : (Lit.int .i64 x).wf = true) (hf : st.find s = none) (ht : st.text x = none) (hq : st.q + 1 ≤ 1000) :
    Calls Try.prog 34 #[.pointer (some ⟨g, 0, none⟩), .string s, .int .i64 x] w fun e w' => e = .returned (.int .i64 0) ∧ Ref w' (ext S w w') g (st.add s x) ∧ Only S w w' := by
  have hx1 : ¬ x < 1 := by omega
  have HOK := Aside0.mk (h.1.added hs hw hx (St.find_none' hf) (St.text_none ht) hq)
  have HLL : Aside0 (st.L.length ≤ 1000) := ⟨Nat.le_trans h.1.many h.1.q⟩
  have HNN : Aside0 (st.n ≤ 1048576) := ⟨by have := h.1.few; have := h.1.q; omega⟩
  have HT := Aside0.mk h
  have HF := Aside0.mk hf
  have HX := Aside0.mk ht
  clear h hf ht hq
  obtain ⟨i0, hi0, hz0, hz1, hz2⟩ := info_parts info68
  go_enter Try.func34, Try.ntmps34
  go_wp2_with (first
    | (go_at_call 25; refine (HT.out.find_as s HF.out).mono ?_; rintro e w1 ⟨rfl, b1⟩; have H1 := Aside0.mk (HT.out.below b1); have B1 := Aside0.mk b1; clear b1)
    | (go_at_call 26; refine (H1.out.text_as x HX.out).mono ?_; rintro e w2 ⟨rfl, b2⟩; obtain ⟨_, v2, h2⟩ := H1.out.below b2; obtain ⟨c0, c1, cf⟩ := h2.cells; have H2 := Aside0.mk h2; have B2 := Aside0.mk (B1.out.trans (b2.mono B1.out.size)); have c0a : ∀ o, (w2.alloc o).cell? ⟨g, 0, none⟩ = some v2 := (fun o => (World.cell?_of_block (a := ⟨g, 0, none⟩) (Below.heap_alloc w2 o g H2.out.lts.1)).trans c0); clear b2 h2)
    | (at_builtin; refine wpList_append_own_at _ rfl _ _ 48 rfl 0 68 i0 (.agg #[.string ByteArray.empty, .int .i64 0]) 2 24 Try.underlying48 hi0 hz0 hz1 hz2 rfl (by decide) v2 st.L.length (flat2 st.L) rfl (World.ownsRow.alloc H2.out.row _) ⟨w2.heap.size, 0, none⟩ 1 1 [.string s, .int .i64 x] rfl rfl (World.news_of_block (heap_alloc_new _ _)) (by simp [Value.oneCell']) (by have := HLL.out; unfold maxLen; omega) (by have := HLL.out; omega) (Nat.zero_le _) ?_; intro v' w3 hown3 hgrow3 hnil3 hloc3; have HG3 := Aside0.mk (grown_early (below_alloc (Below.refl _ _) _) hgrow3 (fun k e => (H2.out.lts.2 k e))); have HLO := Aside0.mk hloc3; have e3 := HG3.out.block g H2.out.lts.1 (fun e => H2.out.off e.symm); have c03 := (World.cell?_of_block (a := ⟨g, 0, none⟩) e3).trans c0; have cf3 := (World.frozen?_of_block (a := ⟨g, 0, none⟩) e3).trans (cf 0); obtain ⟨L', hL', HO3⟩ : ∃ L', Aside0 (L' = st.L ++ [⟨s, x, st.q⟩]) ∧ Aside0 (w3.ownsRow 0 68 2 v' L'.length (flat2 L')) := ⟨_, ⟨rfl⟩, ⟨own_snoc hown3⟩⟩; obtain ⟨p3, cp3, rfl, _⟩ := ownsRow_val2 HO3.out; clear hown3 hgrow3 hnil3 hloc3 e3))
  have HSET := Aside0.mk (H2.out.setl (q' := st.q + 1) HG3.out (fun k e _ => H2.out.inS.2 k e) H2.out.off _ HO3.out (fun b e => by
    rcases HLO.out with h | h
    · exact Or.inl (H2.out.inS.2 b (h ▸ e))
    · rw [h] at e; right; injection e with e; rw [← e]; simp))
  clear c0 c1 cf c0a c03 cf3 hi0 hz0 hz1 hz2 HG3 HLO HO3 H1
  generalize w3.setCell ⟨g, 0, none⟩ (.slice p3 L'.length cp3) = w4 at HSET ⊢
  obtain ⟨h4, o4⟩ := HSET.out
  obtain ⟨d0, d1, df⟩ := h4.cells
  have H4 := Aside0.mk (h4.of_blocks (w' := w4.drew) (S' := ext S w2 w4) (fun _ _ h => h) (fun _ _ _ => rfl))
  have O4 := Aside0.mk o4.drew
  have df2 : w4.drew.frozen? ⟨g, 1, none⟩ = false := df 1
  clear h4 o4 HSET df
  have HL9 : Aside0 (L'.length = st.L.length + 1) := ⟨by rw [hL'.out]; simp⟩
  refine start_ (n := 10) (S := fun w' => w'.cell? ⟨g, 0, none⟩ = some (.slice p3 L'.length cp3) ∧ w'.cell? ⟨g, 1, none⟩ = some (.int .i64 (st.n : Int))) (ds := []) #[false, false, false, false, false, false, false, false, false, false] (by kernel_rfl) rfl rfl ⟨d0, d1⟩ (fun hHeld => ?_)
  refine pure_ (i := 0) (N := (some 41)) (v := ?_) (a' := ?_) #[true, false, false, false, false, false, false, false, false, false] rfl rfl (by kernel_rfl) (fun _ _ _ h => h) (Or.inl ⟨by rfl, ?_⟩) ?_ ?_
  rotate_left
  · intro w'
    go_simp
    with_reducible rfl
  rotate_left
  · simp only [Act.put, List.setIfInBounds_toArray, List.set_cons_zero, List.set_cons_succ, i64_w, i32_w]
    rfl
  refine pure_ (i := 1) (N := (some 42)) (v := ?_) (a' := ?_) #[true, true, false, false, false, false, false, false, false, false] rfl rfl (by kernel_rfl) (fun _ _ _ h => h) (Or.inl ⟨by rfl, ?_⟩) ?_ ?_
  rotate_left
  · intro w'
    go_simp
    with_reducible rfl
  rotate_left
  · simp only [Act.put, List.setIfInBounds_toArray, List.set_cons_zero, List.set_cons_succ, i64_w, i32_w]
    rfl
  refine pure_ (i := 2) (N := (some 43)) (v := ?_) (a' := ?_) #[true, true, true, false, false, false, false, false, false, false] rfl rfl (by kernel_rfl) (fun _ _ _ h => h) (Or.inl ⟨by rfl, ?_⟩) ?_ ?_
  rotate_left
  · intro w'
    go_simp
    with_reducible rfl
  rotate_left
  · simp only [Act.put, List.setIfInBounds_toArray, List.set_cons_zero, List.set_cons_succ, i64_w, i32_w]
    rfl
  refine take_ (i := 3) (N := (some 44)) (v := ?_) (a' := ?_) #[true, true, true, true, false, false, false, false, false, false] rfl rfl (by kernel_rfl) (fun _ _ _ h => h) (Or.inl ⟨by rfl, ?_⟩) hHeld ?_ ?_
  rotate_left
  · rintro w' ⟨s0, s1⟩
    go_simp
    with_reducible rfl
  rotate_left
  · simp only [Act.put, List.setIfInBounds_toArray, List.set_cons_zero, List.set_cons_succ, i64_w, i32_w]
    rfl
  refine pure_ (i := 4) (N := (some 45)) (v := ?_) (a' := ?_) #[true, true, true, true, true, false, false, false, false, false] rfl rfl (by kernel_rfl) (fun _ _ _ h => h) (Or.inl ⟨by rfl, ?_⟩) ?_ ?_
  rotate_left
  · intro w'
    go_simp
    with_reducible rfl
  rotate_left
  · simp only [Act.put, List.setIfInBounds_toArray, List.set_cons_zero, List.set_cons_succ, i64_w, i32_w]
    rfl
  refine pure_ (i := 5) (N := (some 46)) (v := ?_) (a' := ?_) #[true, true, true, true, true, true, false, false, false, false] rfl rfl (by kernel_rfl) (fun _ _ _ h => h) (Or.inl ⟨by rfl, ?_⟩) ?_ ?_
  rotate_left
  · intro w'
    go_simp
    with_reducible rfl
  rotate_left
  · simp only [Act.put, List.setIfInBounds_toArray, List.set_cons_zero, List.set_cons_succ, i64_w, i32_w]
    rfl
  refine pure_ (i := 6) (N := (some 47)) (v := ?_) (a' := ?_) #[true, true, true, true, true, true, true, false, false, false] rfl rfl (by kernel_rfl) (fun _ _ _ h => h) (Or.inl ⟨by rfl, ?_⟩) ?_ ?_
  rotate_left
  · intro w'
    go_simp
    with_reducible rfl
  rotate_left
  · simp only [Act.put, List.setIfInBounds_toArray, List.set_cons_zero, List.set_cons_succ, i64_w, i32_w]
    rfl
  refine pure_ (i := 7) (N := (some 48)) (v := ?_) (a' := ?_) #[true, true, true, true, true, true, true, true, false, false] rfl rfl (by kernel_rfl) (fun _ _ _ h => h) (Or.inl ⟨by rfl, ?_⟩) ?_ ?_
  rotate_left
  · intro w'
    go_simp
    with_reducible rfl
  rotate_left
  · simp only [Act.put, List.setIfInBounds_toArray, List.set_cons_zero, List.set_cons_succ, i64_w, i32_w]
    rfl
  refine take_ (i := 8) (N := (some 49)) (v := ?_) (a' := ?_) #[true, true, true, true, true, true, true, true, true, false] rfl rfl (by kernel_rfl) (fun _ _ _ h => h) (Or.inl ⟨by rfl, ?_⟩) hHeld ?_ ?_
  rotate_left
  · rintro w' ⟨s0, s1⟩
    go_simp
    with_reducible rfl
  rotate_left
  · simp only [Act.put, List.setIfInBounds_toArray, List.set_cons_zero, List.set_cons_succ, i64_w, i32_w]
    rfl
  refine pure_ (i := 9) (N := (some 50)) (v := ?_) (a' := ?_) #[true, true, true, true, true, true, true, true, true, true] rfl rfl (by kernel_rfl) (fun _ _ _ h => h) (Or.inl ⟨by rfl, ?_⟩) ?_ ?_
  rotate_left
  · intro w'
    go_simp
    with_reducible rfl
  rotate_left
  · simp only [Act.put, List.setIfInBounds_toArray, List.set_cons_zero, List.set_cons_succ, i64_w, i32_w]
    rfl
  refine done_ (by kernel_rfl) ?_
  clear hHeld d0
  have d1 := H4.out.cells.2.1
  by_cases hr : st.n < L'.length
  · have hr0 : (st.n : Int) < (L'.length : Int) := by omega
    have hw2 : Aside0 (wrap64 (2 * (st.n : Int)) = ((2 * st.n : Nat) : Int)) := ⟨by have := HNN.out; unfold wrap64; omega⟩
    go_wp2
    go_ret
    have e2 : ∀ w', w' = w4.drew.setCell ⟨g, 1, none⟩ (.int .i64 ((2 * st.n : Nat) : Int)) → Ref w' (ext S w w') g (st.add s x) ∧ Only S w w' := by
      rintro w' rfl
      obtain ⟨h5, o5⟩ := H4.out.setn (2 * st.n)
      have o6 := only_ext O4.out o5
      refine ⟨⟨HOK.out, .slice p3 L'.length cp3, ?_⟩, Only.early B2.out o6⟩
      have h8 := h5.of_blocks (S' := ext S w (w4.drew.setCell ⟨g, 1, none⟩ (.int .i64 ((2 * st.n : Nat) : Int)))) (fun k _ hk => ext_early B2.out.size k (ext_ext O4.out.size o5.size k (Or.inl hk))) (fun _ _ _ => rfl)
      unfold St.add
      rw [if_pos (by rw [← HL9.out]; exact hr), ← hL'.out]
      exact h8
    first
      | exact ⟨rfl, e2 _ rfl⟩
      | exact ⟨rfl, e2 _ (by rw [← hw2.out]; rfl)⟩
      | exact ⟨rfl, e2 _ (by simp)⟩
  · have hr0 : ¬ (st.n : Int) < (L'.length : Int) := by omega
    go_wp2
    go_ret
    refine ⟨rfl, ⟨HOK.out, .slice p3 L'.length cp3, ?_⟩, Only.early B2.out O4.out⟩
    have h8 := H4.out.of_blocks (S' := ext S w w4.drew) (fun k _ hk => ext_early B2.out.size k hk) (fun _ _ _ => rfl)
    unfold St.add
    rw [if_neg (by rw [← HL9.out]; exact hr), ← hL'.out]
    exact h8
theorem Ref.put {w : World} {S : Nat → Prop} {g : Nat} {st : St} (h : Ref w S g st) (s : ByteArray) (hs : s.size ≤ maxLen) (x : Int) (hw : (Lit.int .i64 x).wf = true) (hq : st.q + 1 ≤ 1000) :
    Calls Try.prog 34 #[.pointer (some ⟨g, 0, none⟩), .string s, .int .i64 x] w fun e w' => e = .returned (.int .i64 (st.putE s x)) ∧ Ref w' (ext S w w') g (st.put s x) ∧ Only S w w' := by
  unfold St.putE St.put
  by_cases h1 : x < 1
  · rw [if_pos h1, if_pos h1]
    refine (h.put_arg s x h1).mono ?_
    rintro e w' ⟨rfl, hb⟩
    exact ⟨rfl, (h.below hb).mono (fun k _ hk => Or.inl hk), Only.of_below hb⟩
  · rw [if_neg h1, if_neg h1]
    by_cases h2 : ((st.find s).isSome || (st.text x).isSome) = true
    · rw [if_pos h2, if_pos h2]
      refine (h.put_there s x (by omega) _ _ rfl rfl h2).mono ?_
      rintro e w' ⟨rfl, hb⟩
      exact ⟨rfl, (h.below hb).mono (fun k _ hk => Or.inl hk), Only.of_below hb⟩
    · rw [if_neg h2, if_neg h2]
      simp only [Bool.or_eq_true, not_or, Bool.not_eq_true, Option.isSome_eq_false_iff, Option.isNone_iff_eq_none] at h2
      exact h.put_add s hs x (by omega) hw h2.1 h2.2 hq
end Go.Proofs.Ytonjhnglcffihaa.Tab
