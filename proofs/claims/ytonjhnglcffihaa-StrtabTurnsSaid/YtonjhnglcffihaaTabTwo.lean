/- PROVED: the program's table beside the document's. Conditions: those each theorem states. -/
import Derived.Test.YtonjhnglcffihaaRefChain
set_option linter.unusedVariables false
set_option linter.unusedSimpArgs false
namespace Go.Proofs.Ytonjhnglcffihaa.Tab
open Go Go.RowKit Go.Proofs.Ytonjhnglcffihaa.Print Go.Proofs.YtonjhnglcffihaaW.PrintWords Go.Proofs.YtonjhnglcffihaaW.PrintLast Go.Proofs.YtonjhnglcffihaaW.PrintMore
theorem asked_calls {w : World} {S : Nat → Prop} {g : Nat} {st : St} (h : Ref w S g st) (x : S29) (hs : x.f1.size ≤ maxLen) (hw : (Lit.int .i64 x.f2).wf = true) (hq : st.q + 1 ≤ 1000) :
    Calls Try.prog 24 #[.pointer (some ⟨g, 0, none⟩), .agg #[.int .i64 x.f0, .string x.f1, .int .i64 x.f2]] w fun e w' => e = .returned (.int .i64 (st.actE x)) ∧ Ref w' (ext S w w') g (st.act x) ∧ Only S w w' := by
  obtain ⟨k, s, x⟩ := x
  dsimp only at hs hw ⊢
  unfold St.act St.actE
  dsimp only
  have HT := Aside0.mk h
  clear h
  by_cases h1 : k = 1
  · subst h1
    rw [if_pos rfl, if_pos rfl]
    go_enter Try.func24, Try.ntmps24
    go_wp2_with (first
      | (go_at_call 34; refine (((HT.out.below (below_alloc (Below.refl _ _) _)).put s hs x hw hq).mono ?_); rintro e w1 ⟨rfl, h1, o1⟩; have H1 := Aside0.mk h1; have O1 := Aside0.mk o1; clear h1 o1))
    go_ret
    exact ⟨rfl, H1.out.mono (fun k _ hk => ext_early (by simp) k hk), Only.early (below_alloc (Below.refl _ _) _) O1.out⟩
  · by_cases h2 : k = 2
    · subst h2
      rw [if_neg h1, if_neg h1, if_pos rfl, if_pos rfl]
      go_enter Try.func24, Try.ntmps24
      go_wp2_with (first
        | (go_at_call 35; refine (((HT.out.below (below_alloc (Below.refl _ _) _)).drop x).mono ?_); rintro e w1 ⟨rfl, h1, o1⟩; have H1 := Aside0.mk h1; have O1 := Aside0.mk o1; clear h1 o1))
      go_ret
      exact ⟨rfl, H1.out.mono (fun k _ hk => ext_early (by simp) k hk), Only.early (below_alloc (Below.refl _ _) _) O1.out⟩
    · rw [if_neg h1, if_neg h1, if_neg h2, if_neg h2]
      have e1 : (k == 1) = false := beq_eq_false_iff_ne.2 h1
      have e2 : (k == 2) = false := beq_eq_false_iff_ne.2 h2
      go_enter Try.func24, Try.ntmps24
      go_wp2
      go_ret
      exact ⟨rfl, (HT.out.below (below_alloc (Below.refl _ _) _)).mono (fun k _ hk => Or.inl hk), Only.of_below (below_alloc (Below.refl _ _) _)⟩
/-- Two states that share no block, all of whose blocks lie from N on. -/
def Duo (N : Nat) (w : World) (P Q : World → (Nat → Prop) → Prop) : Prop := ∃ S R, P w S ∧ Q w R ∧ (∀ k, S k → N ≤ k ∧ k < w.heap.size ∧ ¬ R k) ∧ (∀ k, R k → N ≤ k ∧ k < w.heap.size)
def Abides (P : World → (Nat → Prop) → Prop) : Prop := ∀ {w w' : World} {S R : Nat → Prop}, P w S → Only R w w' → (∀ k, S k → ¬ R k) → P w' S
theorem tab_abides (B : Nat) (st : St) : Abides (fun w S => Tab w S B st) := fun h o hd => h.only o hd
theorem ref_abides (g : Nat) (st : St) : Abides (fun w S => Ref w S g st) := fun h o hd => h.only o hd
theorem Duo.swap {N : Nat} {w : World} {P Q : World → (Nat → Prop) → Prop} (h : Duo N w P Q) : Duo N w Q P := by
  obtain ⟨S, R, h1, h2, h3, h4⟩ := h
  exact ⟨R, S, h2, h1, fun k hk => ⟨(h4 k hk).1, (h4 k hk).2, fun hs => (h3 k hs).2.2 hk⟩, fun k hk => ⟨(h3 k hk).1, (h3 k hk).2.1⟩⟩
theorem Duo.step {N : Nat} {w w' : World} {Q P' : World → (Nat → Prop) → Prop} (hN : N ≤ w.heap.size) (hQ : Abides Q) {S R : Nat → Prop} (h2 : Q w R) (h3 : ∀ k, S k → N ≤ k ∧ k < w.heap.size ∧ ¬ R k) (h4 : ∀ k, R k → N ≤ k ∧ k < w.heap.size)
    (hp : P' w' (ext S w w')) (o : Only S w w') : Duo N w' P' Q ∧ Below N w w' := by
  refine ⟨⟨ext S w w', R, hp, hQ h2 o (fun k hk hs => (h3 k hs).2.2 hk), fun k hk => ?_, fun k hk => ⟨(h4 k hk).1, Nat.lt_of_lt_of_le (h4 k hk).2 o.size⟩⟩, o.below (fun k hk => (h3 k hk).1) hN⟩
  rcases hk with hk | hk
  · exact ⟨(h3 k hk).1, Nat.lt_of_lt_of_le (h3 k hk).2.1 o.size, (h3 k hk).2.2⟩
  · exact ⟨Nat.le_trans hN hk.1, hk.2, fun hr => by have := (h4 k hr).2; omega⟩
theorem Duo.left {N : Nat} {w : World} {P Q P' : World → (Nat → Prop) → Prop} (h : Duo N w P Q) (hN : N ≤ w.heap.size) (hQ : Abides Q) {f : Nat} {args : Array Value} {E : Ending → Prop}
    (hc : ∀ S, P w S → Calls Try.prog f args w fun e w' => E e ∧ P' w' (ext S w w') ∧ Only S w w') : Calls Try.prog f args w fun e w' => E e ∧ Duo N w' P' Q ∧ Below N w w' := by
  obtain ⟨S, R, h1, h2, h3, h4⟩ := h
  refine (hc S h1).mono ?_
  rintro e w' ⟨he, hp, o⟩
  exact ⟨he, Duo.step hN hQ h2 h3 h4 hp o⟩
theorem Duo.below {N : Nat} {w w' : World} {P Q : World → (Nat → Prop) → Prop} (h : Duo N w P Q) (hP : Abides P) (hQ : Abides Q) (hb : Below w.heap.size w w') : Duo N w' P Q := by
  obtain ⟨S, R, h1, h2, h3, h4⟩ := h
  have o : Only (fun _ => False) w w' := Only.of_below hb
  exact ⟨S, R, hP h1 o (fun _ _ h => h), hQ h2 o (fun _ _ h => h), fun k hk => ⟨(h3 k hk).1, Nat.lt_of_lt_of_le (h3 k hk).2.1 hb.size, (h3 k hk).2.2⟩, fun k hk => ⟨(h4 k hk).1, Nat.lt_of_lt_of_le (h4 k hk).2 hb.size⟩⟩
/-- Once all that is left is of ds: another S, another ds. -/
theorem turn_ {P : Program} {ops : Array Oper} {Q : Exit → Act → World → Prop} {md : Region.Mode} {S S' : World → Prop} {ds ds' : List Nat} : ∀ {fuel : Nat} {l : Array Bool} {a : Act} {w : World} (hc : ∀ j, l.getD j true = false → j ∈ ds) (h : wpAnyLast P md ops Q S' ds' fuel l a w), wpAnyLast P md ops Q S ds fuel l a w
  | 0, l, a, w, hc, h => h
  | fuel + 1, l, a, w, hc, h => ⟨h.1, fun i hi => wpOp_mono (fun a' w' h' => ⟨fun hn => absurd (hc i (mem_ready.1 hi).1) hn, turn_ (fun j hj => hc j (by
      by_cases e : j = i
      · subst e
        exact (mem_ready.1 hi).1
      · simpa [Array.getD_eq_getD_getElem?, Array.getElem?_setIfInBounds, Ne.symm e] using hj)) h'.2⟩) (h.2 i hi)⟩
theorem left_of {l : Array Bool} {ds : List Nat} (h : (List.range l.size).all (fun j => l.getD j true || ds.contains j) = true) : ∀ j, l.getD j true = false → j ∈ ds := fun j hj => by
  rw [List.all_eq_true] at h
  rcases Nat.lt_or_ge j l.size with h1 | h1
  · have := h j (List.mem_range.2 h1)
    rw [hj] at this
    simpa using this
  · simp [Array.getD_eq_getD_getElem?, Array.getElem?_eq_none h1] at hj
theorem ints_same (l : List Int) (hl : l.length ≤ 1000) : heirloomlaw03_Ints.f (l.length + 1) l l = some true := by
  have key : ∀ (d i : Nat), i + d = l.length → heirloomlaw03_Ints.l0 (d + 1) l l (i : Int) = some true := by
    intro d
    induction d with
    | zero =>
      intro i hi
      simp only [heirloomlaw03_Ints.l0]; rw [if_neg (by omega)]
    | succ d ih =>
      intro i hi
      have := ih (i + 1) (by omega)
      unfold heirloomlaw03_Ints.l0
      rw [if_pos (by omega), if_pos (by omega), if_pos (by omega), if_pos rfl, wrap_nat_succ i (by omega)]
      exact this
  unfold heirloomlaw03_Ints.f
  rw [if_pos rfl]
  exact key l.length 0 (by omega)
end Go.Proofs.Ytonjhnglcffihaa.Tab
