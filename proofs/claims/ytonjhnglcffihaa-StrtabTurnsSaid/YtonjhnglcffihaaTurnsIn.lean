/- PROVED: what StrtabTurns's inner function answers, and 'same'. Conditions: those each theorem states. -/
import Derived.Test.YtonjhnglcffihaaTurnsLaw
import Derived.Test.YtonjhnglcffihaaTabPlays
set_option linter.unusedVariables false
set_option linter.unusedSimpArgs false
namespace Go.Proofs.Ytonjhnglcffihaa.Tab
open Go Go.RowKit Go.Proofs.Ytonjhnglcffihaa.Print Go.Proofs.YtonjhnglcffihaaW.PrintWords Go.Proofs.YtonjhnglcffihaaW.PrintLast Go.Proofs.YtonjhnglcffihaaW.PrintMore
theorem at_text {w : World} {A0 : Option Addr} {l : List ByteArray} (h : Kd.C Kd.string w A0 l.length l) {k : Nat} {t : ByteArray} (hk : l[k]? = some t) : ∃ ad, A0 = some ad ∧ w.cell? (ad.add k) = some (.string t) := by
  obtain ⟨hl, e⟩ := List.getElem?_eq_some_iff.1 hk
  obtain ⟨ad, e9, x0⟩ := Kd.at_string h (k : Int) (by omega) (by omega)
  refine ⟨ad, e9, ?_⟩
  rw [Int.toNat_natCast] at x0
  rw [x0]
  unfold rdOf
  simp [List.getD, hk]
set_option maxHeartbeats 4000000 in
set_option maxRecDepth 100000 in
theorem hd_calls {w : World} {bx : Nat} {A0 : Option Addr} {c0 : Nat} {l : List ByteArray} (hb : w.cell? ⟨bx, 0, none⟩ = some (.slice A0 l.length c0)) (hr : Kd.C Kd.string w A0 l.length l) (hl : l.length ≤ 50) {k : Nat} {t : ByteArray} (hk : l[k]? = some t) :
    Calls Try.prog 15 #[.int .i64 (k : Int), .pointer (some ⟨bx, 0, none⟩)] w fun e w' => e = .returned (.int .i64 (hdOf l t)) ∧ Below w.heap.size w w' := by
  obtain ⟨ad, rfl, y0⟩ := at_text hr hk
  have HR := Aside0.mk hr
  have HK := Aside0.mk hk
  have hkl := (List.getElem?_eq_some_iff.1 hk).1
  clear hr hk
  go_enter Try.func15, Try.ntmps15
  go_wp2
  go_loopw [4] (fun v wr => ∃ i : Nat, i ≤ k ∧ v = .int .i64 i ∧ Aside0 (∀ j u, j < i → l[j]? = some u → u ≠ t) ∧ Aside0 (Below w.heap.size w wr)) (fun v _ => k - (intOf v).toNat)
  case atStart => exact ⟨0, by omega, rfl, ⟨fun j u hj => by omega⟩, ⟨Below.refl _ _⟩⟩
  case round =>
    obtain ⟨i, hi, rfl, HJ, HB⟩ := hrel
    have hwi : Aside0 (wrap64 ((i : Int) + 1) = ((i + 1 : Nat) : Int)) := ⟨wrap_nat_succ i (by omega)⟩
    by_cases hlt : i < k
    · have hlt0 : (i : Int) < (k : Int) := by omega
      obtain ⟨u, hu⟩ : ∃ u, l[i]? = some u := ⟨_, List.getElem?_eq_getElem (by omega)⟩
      obtain ⟨ad2, e2, x0⟩ := at_text HR.out hu
      cases e2
      have HU := Aside0.mk hu
      clear hu
      have k0 := (HB.out.cell (World.block_lt_of_cell? w _ hb)).trans hb
      replace x0 := (HB.out.cell (World.block_lt_of_cell? w _ x0)).trans x0
      replace y0 := (HB.out.cell (World.block_lt_of_cell? w _ y0)).trans y0
      have hi0 : (0 : Int) ≤ (i : Int) := by omega
      have hi1 : (i : Int) < (l.length : Int) := by omega
      have hk0 : (0 : Int) ≤ (k : Int) := by omega
      have hk1 : (k : Int) < (l.length : Int) := by omega
      by_cases he : u = t
      · subst he
        have hq : (u.toList == u.toList) = true := by simp
        go_wp2
        refine start_ (n := 9) (S := fun w' => w'.cell? ⟨bx, 0, none⟩ = some (.slice (some ad) l.length c0) ∧ w'.cell? (ad.add i) = some (.string u) ∧ w'.cell? (ad.add k) = some (.string u)) (ds := []) #[false, false, false, false, false, false, false, false, false] (by kernel_rfl) rfl rfl ⟨k0, x0, y0⟩ (fun hHeld => ?_)
        refine take_ (i := 0) (N := (some 10)) (v := ?_) (a' := ?_) #[true, false, false, false, false, false, false, false, false] rfl rfl (by kernel_rfl) (fun _ _ _ h => h) (Or.inl ⟨by rfl, ?_⟩) hHeld ?_ ?_
        rotate_left
        · rintro w' ⟨s0, s1, s2⟩
          go_simp
          with_reducible rfl
        rotate_left
        · simp only [Act.put, List.setIfInBounds_toArray, List.set_cons_zero, List.set_cons_succ, i64_w, i32_w]
          rfl
        refine pure_ (i := 1) (N := (some 11)) (v := ?_) (a' := ?_) #[true, true, false, false, false, false, false, false, false] rfl rfl (by kernel_rfl) (fun _ _ _ h => h) (Or.inl ⟨by rfl, ?_⟩) ?_ ?_
        rotate_left
        · intro w'
          go_simp
          with_reducible rfl
        rotate_left
        · simp only [Act.put, List.setIfInBounds_toArray, List.set_cons_zero, List.set_cons_succ, i64_w, i32_w]
          rfl
        refine pure_ (i := 2) (N := (some 12)) (v := ?_) (a' := ?_) #[true, true, true, false, false, false, false, false, false] rfl rfl (by kernel_rfl) (fun _ _ _ h => h) (Or.inl ⟨by rfl, ?_⟩) ?_ ?_
        rotate_left
        · intro w'
          go_simp
          with_reducible rfl
        rotate_left
        · simp only [Act.put, List.setIfInBounds_toArray, List.set_cons_zero, List.set_cons_succ, i64_w, i32_w]
          rfl
        refine take_ (i := 3) (N := (some 13)) (v := ?_) (a' := ?_) #[true, true, true, true, false, false, false, false, false] rfl rfl (by kernel_rfl) (fun _ _ _ h => h) (Or.inl ⟨by rfl, ?_⟩) hHeld ?_ ?_
        rotate_left
        · rintro w' ⟨s0, s1, s2⟩
          go_simp
          with_reducible rfl
        rotate_left
        · simp only [Act.put, List.setIfInBounds_toArray, List.set_cons_zero, List.set_cons_succ, i64_w, i32_w]
          rfl
        refine take_ (i := 4) (N := (some 14)) (v := ?_) (a' := ?_) #[true, true, true, true, true, false, false, false, false] rfl rfl (by kernel_rfl) (fun _ _ _ h => h) (Or.inl ⟨by rfl, ?_⟩) hHeld ?_ ?_
        rotate_left
        · rintro w' ⟨s0, s1, s2⟩
          go_simp
          with_reducible rfl
        rotate_left
        · simp only [Act.put, List.setIfInBounds_toArray, List.set_cons_zero, List.set_cons_succ, i64_w, i32_w]
          rfl
        refine pure_ (i := 5) (N := (some 15)) (v := ?_) (a' := ?_) #[true, true, true, true, true, true, false, false, false] rfl rfl (by kernel_rfl) (fun _ _ _ h => h) (Or.inl ⟨by rfl, ?_⟩) ?_ ?_
        rotate_left
        · intro w'
          go_simp
          with_reducible rfl
        rotate_left
        · simp only [Act.put, List.setIfInBounds_toArray, List.set_cons_zero, List.set_cons_succ, i64_w, i32_w]
          rfl
        refine pure_ (i := 6) (N := (some 16)) (v := ?_) (a' := ?_) #[true, true, true, true, true, true, true, false, false] rfl rfl (by kernel_rfl) (fun _ _ _ h => h) (Or.inl ⟨by rfl, ?_⟩) ?_ ?_
        rotate_left
        · intro w'
          go_simp
          with_reducible rfl
        rotate_left
        · simp only [Act.put, List.setIfInBounds_toArray, List.set_cons_zero, List.set_cons_succ, i64_w, i32_w]
          rfl
        refine take_ (i := 7) (N := (some 17)) (v := ?_) (a' := ?_) #[true, true, true, true, true, true, true, true, false] rfl rfl (by kernel_rfl) (fun _ _ _ h => h) (Or.inl ⟨by rfl, ?_⟩) hHeld ?_ ?_
        rotate_left
        · rintro w' ⟨s0, s1, s2⟩
          go_simp
          with_reducible rfl
        rotate_left
        · simp only [Act.put, List.setIfInBounds_toArray, List.set_cons_zero, List.set_cons_succ, i64_w, i32_w]
          rfl
        refine pure_ (i := 8) (N := (some 18)) (v := .bool true) (a' := ?_) #[true, true, true, true, true, true, true, true, true] rfl rfl (by kernel_rfl) (fun _ _ _ h => h) (Or.inl ⟨by rfl, ?_⟩) ?_ ?_
        skip
        · intro w'
          (go_simp) <;> (first | (with_reducible rfl) | (simp [hq]; done) | rfl)
        rotate_left
        · simp only [Act.put, List.setIfInBounds_toArray, List.set_cons_zero, List.set_cons_succ, i64_w, i32_w]
          rfl
        refine done_ (by kernel_rfl) ?_
        clear hHeld
        go_wp2
        go_ret
        refine ⟨?_, by repeat (first | (with_reducible first | exact HB.out | apply below_alloc | apply pw_below_drewN | apply below_drew1) | exact HB.out)⟩
        rw [hdOf, idxE_eq HU.out HJ.out]
        first | rfl | (rw [hwi.out]; rfl)
      · have hq : (u.toList == t.toList) = false := beq_eq_false_iff_ne.2 (fun e => he (toList_inj e))
        go_wp2
        refine start_ (n := 9) (S := fun w' => w'.cell? ⟨bx, 0, none⟩ = some (.slice (some ad) l.length c0) ∧ w'.cell? (ad.add i) = some (.string u) ∧ w'.cell? (ad.add k) = some (.string t)) (ds := []) #[false, false, false, false, false, false, false, false, false] (by kernel_rfl) rfl rfl ⟨k0, x0, y0⟩ (fun hHeld => ?_)
        refine take_ (i := 0) (N := (some 10)) (v := ?_) (a' := ?_) #[true, false, false, false, false, false, false, false, false] rfl rfl (by kernel_rfl) (fun _ _ _ h => h) (Or.inl ⟨by rfl, ?_⟩) hHeld ?_ ?_
        rotate_left
        · rintro w' ⟨s0, s1, s2⟩
          go_simp
          with_reducible rfl
        rotate_left
        · simp only [Act.put, List.setIfInBounds_toArray, List.set_cons_zero, List.set_cons_succ, i64_w, i32_w]
          rfl
        refine pure_ (i := 1) (N := (some 11)) (v := ?_) (a' := ?_) #[true, true, false, false, false, false, false, false, false] rfl rfl (by kernel_rfl) (fun _ _ _ h => h) (Or.inl ⟨by rfl, ?_⟩) ?_ ?_
        rotate_left
        · intro w'
          go_simp
          with_reducible rfl
        rotate_left
        · simp only [Act.put, List.setIfInBounds_toArray, List.set_cons_zero, List.set_cons_succ, i64_w, i32_w]
          rfl
        refine pure_ (i := 2) (N := (some 12)) (v := ?_) (a' := ?_) #[true, true, true, false, false, false, false, false, false] rfl rfl (by kernel_rfl) (fun _ _ _ h => h) (Or.inl ⟨by rfl, ?_⟩) ?_ ?_
        rotate_left
        · intro w'
          go_simp
          with_reducible rfl
        rotate_left
        · simp only [Act.put, List.setIfInBounds_toArray, List.set_cons_zero, List.set_cons_succ, i64_w, i32_w]
          rfl
        refine take_ (i := 3) (N := (some 13)) (v := ?_) (a' := ?_) #[true, true, true, true, false, false, false, false, false] rfl rfl (by kernel_rfl) (fun _ _ _ h => h) (Or.inl ⟨by rfl, ?_⟩) hHeld ?_ ?_
        rotate_left
        · rintro w' ⟨s0, s1, s2⟩
          go_simp
          with_reducible rfl
        rotate_left
        · simp only [Act.put, List.setIfInBounds_toArray, List.set_cons_zero, List.set_cons_succ, i64_w, i32_w]
          rfl
        refine take_ (i := 4) (N := (some 14)) (v := ?_) (a' := ?_) #[true, true, true, true, true, false, false, false, false] rfl rfl (by kernel_rfl) (fun _ _ _ h => h) (Or.inl ⟨by rfl, ?_⟩) hHeld ?_ ?_
        rotate_left
        · rintro w' ⟨s0, s1, s2⟩
          go_simp
          with_reducible rfl
        rotate_left
        · simp only [Act.put, List.setIfInBounds_toArray, List.set_cons_zero, List.set_cons_succ, i64_w, i32_w]
          rfl
        refine pure_ (i := 5) (N := (some 15)) (v := ?_) (a' := ?_) #[true, true, true, true, true, true, false, false, false] rfl rfl (by kernel_rfl) (fun _ _ _ h => h) (Or.inl ⟨by rfl, ?_⟩) ?_ ?_
        rotate_left
        · intro w'
          go_simp
          with_reducible rfl
        rotate_left
        · simp only [Act.put, List.setIfInBounds_toArray, List.set_cons_zero, List.set_cons_succ, i64_w, i32_w]
          rfl
        refine pure_ (i := 6) (N := (some 16)) (v := ?_) (a' := ?_) #[true, true, true, true, true, true, true, false, false] rfl rfl (by kernel_rfl) (fun _ _ _ h => h) (Or.inl ⟨by rfl, ?_⟩) ?_ ?_
        rotate_left
        · intro w'
          go_simp
          with_reducible rfl
        rotate_left
        · simp only [Act.put, List.setIfInBounds_toArray, List.set_cons_zero, List.set_cons_succ, i64_w, i32_w]
          rfl
        refine take_ (i := 7) (N := (some 17)) (v := ?_) (a' := ?_) #[true, true, true, true, true, true, true, true, false] rfl rfl (by kernel_rfl) (fun _ _ _ h => h) (Or.inl ⟨by rfl, ?_⟩) hHeld ?_ ?_
        rotate_left
        · rintro w' ⟨s0, s1, s2⟩
          go_simp
          with_reducible rfl
        rotate_left
        · simp only [Act.put, List.setIfInBounds_toArray, List.set_cons_zero, List.set_cons_succ, i64_w, i32_w]
          rfl
        refine pure_ (i := 8) (N := (some 18)) (v := .bool false) (a' := ?_) #[true, true, true, true, true, true, true, true, true] rfl rfl (by kernel_rfl) (fun _ _ _ h => h) (Or.inl ⟨by rfl, ?_⟩) ?_ ?_
        skip
        · intro w'
          (go_simp) <;> (first | (with_reducible rfl) | (simp [hq]; done) | rfl)
        rotate_left
        · simp only [Act.put, List.setIfInBounds_toArray, List.set_cons_zero, List.set_cons_succ, i64_w, i32_w]
          rfl
        refine done_ (by kernel_rfl) ?_
        clear hHeld
        go_wp2
        first | rw [hwi.out] | skip
        exact ⟨⟨i + 1, hlt, rfl, ⟨fun j v hj hv => by
          rcases Nat.lt_succ_iff_lt_or_eq.1 hj with h | rfl
          · exact HJ.out j v h hv
          · rw [HU.out] at hv; cases hv; exact he⟩, ⟨by repeat (first | (with_reducible first | exact HB.out | apply below_alloc | apply pw_below_drewN | apply below_drew1) | exact HB.out)⟩⟩, by show k - ((i + 1 : Nat) : Int).toNat < k - (i : Int).toNat; omega⟩
    · have hlt0 : ¬ (i : Int) < (k : Int) := by omega
      obtain rfl : i = k := by omega
      go_wp2
      go_ret
      refine ⟨?_, by repeat (first | (with_reducible first | exact HB.out | apply below_alloc | apply pw_below_drewN | apply below_drew1) | exact HB.out)⟩
      rw [hdOf, idxE_eq HK.out HJ.out]
      first | rfl | (rw [hwi.out]; rfl)
theorem two_find {N : Nat} {w : World} {B g : Nat} {st rt : St} (h : Duo N w (PT B st) (PT g rt)) (s : ByteArray) (hs : s.size ≤ maxLen) (h1 : Int) (b1 : Bool) (e1 : ((st.find s).map En.h).getD 0 = h1) (e2 : (st.find s).isSome = b1) :
    Calls Try.prog 19 #[.pointer (some ⟨B, 0, none⟩), .string s] w fun e w' => e = .returned (.tuple #[.int .i64 h1, .bool b1]) ∧ Duo N w' (PT B st) (PT g rt) ∧ Below w.heap.size w w' := by
  subst e1; subst e2
  refine (Calls.mono (by obtain ⟨S, R, t, r, _, _⟩ := h; exact Tab.find t s hs) ?_)
  rintro e w' ⟨rfl, b⟩
  exact ⟨rfl, Duo.below h (tab_abides B st) (tab_abides g rt) b, b⟩
set_option maxHeartbeats 4000000 in
set_option maxRecDepth 100000 in
theorem same_calls {N : Nat} {w : World} {B g : Nat} {st rt : St} {T : ByteArray → Prop} (h : Duo N w (PT B st) (PT g rt)) (A0 : Option Addr) (c0 : Nat) (l : List ByteArray) (hr : Kd.C Kd.string w A0 l.length l) (hl : l.length ≤ 50) (hm : ∀ t ∈ l, t.size ≤ maxLen)
    (hT : ∀ t ∈ l, T t) (t1 : TI l T noX st) (t2 : TI l T noX rt) (hn : st.L.length = rt.L.length) :
    Calls Try.prog 20 #[.pointer (some ⟨B, 0, none⟩), .pointer (some ⟨g, 0, none⟩), .slice A0 l.length c0] w fun e w' => e = .returned (.bool true) ∧ Below w.heap.size w w' := by
  have HD := Aside0.mk h
  have HR := Aside0.mk hr
  have HF := Aside0.mk (fun t (ht : t ∈ l) => (t1.finds t).1 (hT t ht))
  have HG := Aside0.mk (fun t (ht : t ∈ l) => (t2.finds t).1 (hT t ht))
  have HM := Aside0.mk hm
  have HN := Aside0.mk hn
  clear h hr t1 t2 hm hn hT
  go_enter Try.func20, Try.ntmps20
  go_wp2
  go_loopw [7] (fun v wr => ∃ i : Nat, i ≤ l.length ∧ v = .int .i64 i ∧ Aside0 (Duo N wr (PT B st) (PT g rt)) ∧ Aside0 (Below w.heap.size w wr)) (fun v _ => l.length - (intOf v).toNat)
  case atStart => exact ⟨0, by omega, rfl, HD, ⟨Below.refl _ _⟩⟩
  case round =>
    obtain ⟨i, hi, rfl, HW, HB⟩ := hrel
    have hwi : Aside0 (wrap64 ((i : Int) + 1) = ((i + 1 : Nat) : Int)) := ⟨wrap_nat_succ i (by omega)⟩
    by_cases hlt : i < l.length
    · have hlt0 : (i : Int) < (l.length : Int) := by omega
      have hi0 : (0 : Int) ≤ (i : Int) := by omega
      obtain ⟨t, ht⟩ : ∃ u, l[i]? = some u := ⟨_, List.getElem?_eq_getElem hlt⟩
      obtain ⟨ad, rfl, x0⟩ := at_text HR.out ht
      replace x0 := (HB.out.cell (World.block_lt_of_cell? w _ x0)).trans x0
      have HTM := Aside0.mk (List.mem_of_getElem? ht)
      clear ht
      have tok := True.intro
      go_wp2_with (first
        | (go_at_call 19; have _t := tok; refine (two_find HW.out t (HM.out t HTM.out) _ _ (HF.out t HTM.out).1 (HF.out t HTM.out).2).mono ?_; rintro e w5 ⟨rfl, d5, b5⟩; have HW5 := Aside0.mk d5.swap; have HB5 := Aside0.mk (HB.out.trans (b5.mono HB.out.size)); replace x0 := (b5.cell (World.block_lt_of_cell? _ _ x0)).trans x0; clear d5 b5 tok)
        | (go_at_call 19; refine (two_find HW5.out t (HM.out t HTM.out) _ _ (HG.out t HTM.out).1 (HG.out t HTM.out).2).mono ?_; rintro e w6 ⟨rfl, d6, b6⟩; have HW6 := Aside0.mk d6.swap; have HB6 := Aside0.mk (HB5.out.trans (b6.mono HB5.out.size)); clear d6 b6))
      first | rw [hwi.out] | skip
      exact ⟨⟨i + 1, hlt, rfl, HW6, HB6⟩, by show l.length - ((i + 1 : Nat) : Int).toNat < l.length - (i : Int).toNat; omega⟩
    · have hlt0 : ¬ (i : Int) < (l.length : Int) := by omega
      have tok := True.intro
      go_wp2_with (first
        | (go_at_call 14; have _t := tok; refine (Calls.mono (by obtain ⟨S, R, t, r, _, _⟩ := HW.out; exact Tab.len t) ?_); rintro e w5 ⟨rfl, hw5⟩; have hw5 := hw5.symm; subst hw5; rw [HN.out]; clear tok)
        | (go_at_call 14; refine (Calls.mono (by obtain ⟨S, R, t, r, _, _⟩ := HW.out; exact Tab.len r) ?_); rintro e w5 ⟨rfl, hw5⟩; have hw5 := hw5.symm; subst hw5))
      go_ret
      exact ⟨rfl, HB.out⟩
end Go.Proofs.Ytonjhnglcffihaa.Tab
