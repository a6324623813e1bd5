/- PROVED: calls on a table, one after another. Conditions: those each theorem states. -/
import Derived.Test.YtonjhnglcffihaaTabRenew
set_option linter.unusedVariables false
set_option linter.unusedSimpArgs false
namespace Go.Proofs.Ytonjhnglcffihaa.Tab
open Go Go.RowKit Go.Proofs.Ytonjhnglcffihaa.Print Go.Proofs.YtonjhnglcffihaaW.PrintWords Go.Proofs.YtonjhnglcffihaaW.PrintLast Go.Proofs.YtonjhnglcffihaaW.PrintMore

theorem Tab.put {w : World} {S : Nat → Prop} {B : Nat} {st : St} (h : Tab w S B st) (s : ByteArray) (hs : s.size ≤ maxLen) (x : Int) (hw : (Lit.int .i64 x).wf = true) (hq : st.q + 1 ≤ 1000) :
    Calls Try.prog 16 #[.pointer (some ⟨B, 0, none⟩), .string s, .int .i64 x] w fun e w' => e = .returned (.int .i64 (st.putE s x)) ∧ Tab w' (ext S w w') B (st.put s x) ∧ Only S w w' := by
  have o := h.1
  refine h.put_gen s hs x hw hq (fun h1 => renew_ok ?_ ?_ ?_ ?_ ?_ ?_ ?_)
  · have := o.pos; omega
  · have := o.few; have := o.q; omega
  · have := o.pos; show 0 < st.n; omega
  · have := o.few; have := o.q; show st.n ≤ 1048576; omega
  · intro y hy
    rcases List.mem_append.1 hy with hy | hy
    · exact o.len y hy
    · obtain rfl : y = _ := by simpa using hy
      exact hs
  · have := o.many; simp; omega
  · refine List.pairwise_append.2 ⟨o.up, by simp, fun y hy z hz => ?_⟩
    obtain rfl : z = _ := by simpa using hz
    exact (o.sq y hy).2
theorem Tab.drop {w : World} {S : Nat → Prop} {B : Nat} {st : St} (h : Tab w S B st) (x : Int) (hw : (Lit.int .i64 x).wf = true) :
    Calls Try.prog 18 #[.pointer (some ⟨B, 0, none⟩), .int .i64 x] w fun e w' => e = .returned (.int .i64 (st.dropE x)) ∧ Tab w' (ext S w w') B (st.drop x) ∧ Only S w w' := by
  have o := h.1
  have hl := List.length_filter_le (fun y : En => !(y.h == x)) st.L
  refine h.drop_gen x hw (fun h1 => renew_ok ?_ ?_ ?_ ?_ ?_ ?_ ?_)
  · omega
  · have := o.few; have := o.q; omega
  · have := o.pos; show 0 < st.n; omega
  · have := o.few; have := o.q; show st.n ≤ 1048576; omega
  · intro y hy; exact o.len y (List.mem_filter.1 hy).1
  · have := o.many; have := o.q; show (st.L.filter _).length ≤ 1000; omega
  · exact o.up.filter _
def St.act (st : St) (x : S29) : St := if x.f0 = 1 then st.put x.f1 x.f2 else if x.f0 = 2 then st.drop x.f2 else st
def St.actE (st : St) (x : S29) : Int := if x.f0 = 1 then st.putE x.f1 x.f2 else if x.f0 = 2 then st.dropE x.f2 else 0
theorem St.put_q (st : St) (s : ByteArray) (x : Int) : (st.put s x).q ≤ st.q + 1 := by
  unfold St.put; split
  · omega
  · split
    · omega
    · exact Nat.le_refl _
theorem St.drop_q (st : St) (x : Int) : (st.drop x).q = st.q := by
  unfold St.drop; split <;> rfl
theorem St.act_q (st : St) (x : S29) : (st.act x).q ≤ st.q + 1 := by
  unfold St.act; split
  · exact st.put_q _ _
  · split
    · rw [st.drop_q]; omega
    · omega
theorem do_calls {w : World} {S : Nat → Prop} {B : Nat} {st : St} (h : Tab w S B st) (x : S29) (hs : x.f1.size ≤ maxLen) (hw : (Lit.int .i64 x.f2).wf = true) (hq : st.q + 1 ≤ 1000) :
    Calls Try.prog 12 #[.pointer (some ⟨B, 0, none⟩), .agg #[.int .i64 x.f0, .string x.f1, .int .i64 x.f2]] w fun e w' => e = .returned (.int .i64 (st.actE x)) ∧ Tab w' (ext S w w') B (st.act x) ∧ Only S w w' := by
  obtain ⟨k, s, x⟩ := x
  dsimp only at hs hw ⊢
  unfold St.act St.actE
  dsimp only
  have HT := Aside0.mk h
  clear h
  by_cases h1 : k = 1
  · subst h1
    rw [if_pos rfl, if_pos rfl]
    go_enter Try.func12, Try.ntmps12
    go_wp2_with (first
      | (go_at_call 16; refine (((HT.out.below (below_alloc (Below.refl _ _) _)).put s hs x hw hq).mono ?_); rintro e w1 ⟨rfl, h1, o1⟩; have H1 := Aside0.mk h1; have O1 := Aside0.mk o1; clear h1 o1)
      | (go_at_call 17; refine (no_calls _ _).mono ?_; rintro e w8 ⟨rfl, hw8⟩; have hw8 := hw8.symm; subst hw8))
    go_ret
    exact ⟨rfl, H1.out.mono (fun k _ hk => ext_early (by simp) k hk), Only.early (below_alloc (Below.refl _ _) _) O1.out⟩
  · by_cases h2 : k = 2
    · subst h2
      rw [if_neg h1, if_neg h1, if_pos rfl, if_pos rfl]
      go_enter Try.func12, Try.ntmps12
      go_wp2_with (first
        | (go_at_call 18; refine (((HT.out.below (below_alloc (Below.refl _ _) _)).drop x hw).mono ?_); rintro e w1 ⟨rfl, h1, o1⟩; have H1 := Aside0.mk h1; have O1 := Aside0.mk o1; clear h1 o1)
        | (go_at_call 17; refine (no_calls _ _).mono ?_; rintro e w8 ⟨rfl, hw8⟩; have hw8 := hw8.symm; subst hw8))
      go_ret
      exact ⟨rfl, H1.out.mono (fun k _ hk => ext_early (by simp) k hk), Only.early (below_alloc (Below.refl _ _) _) O1.out⟩
    · rw [if_neg h1, if_neg h1, if_neg h2, if_neg h2]
      have e1 : (k == 1) = false := beq_eq_false_iff_ne.2 h1
      have e2 : (k == 2) = false := beq_eq_false_iff_ne.2 h2
      go_enter Try.func12, Try.ntmps12
      go_wp2
      go_ret
      exact ⟨rfl, (HT.out.below (below_alloc (Below.refl _ _) _)).mono (fun k _ hk => Or.inl hk), Only.of_below (below_alloc (Below.refl _ _) _)⟩
theorem long_l (l : List S29) : ∀ (d i : Nat) (x : Int), i + d = 102 → ∃ b, heirloomlaw05_long.l0 (d + 1) l x (i : Int) = some b ∧ (b = false → l.length ≤ 100)
  | 0, i, x, h => by
    unfold heirloomlaw05_long.l0
    by_cases h1 : (i : Int) < (l.length : Int)
    · rw [if_pos h1, if_neg (by omega), if_pos (by omega)]
      exact ⟨true, rfl, by simp⟩
    · rw [if_neg h1]
      by_cases h3 : (l.length : Int) > 100
      · rw [if_pos h3]; exact ⟨true, rfl, by simp⟩
      · rw [if_neg h3]; exact ⟨_, rfl, fun _ => by omega⟩
  | d + 1, i, x, h => by
    unfold heirloomlaw05_long.l0
    by_cases h1 : (i : Int) < (l.length : Int)
    · rw [if_pos h1]
      by_cases h2 : (i : Int) ≤ 100
      · rw [if_pos h2, if_pos (by omega), wrap_nat_succ i (by omega)]
        exact long_l l d (i + 1) _ (by omega)
      · rw [if_neg h2, if_pos (by omega)]
        exact ⟨true, rfl, by simp⟩
    · rw [if_neg h1]
      by_cases h3 : (l.length : Int) > 100
      · rw [if_pos h3]; exact ⟨true, rfl, by simp⟩
      · rw [if_neg h3]; exact ⟨_, rfl, fun _ => by omega⟩
theorem long_some (l : List S29) : ∃ b, heirloomlaw05_long.f 103 l = some b ∧ (b = false → l.length ≤ 100) := long_l l 102 0 0 (by omega)
end Go.Proofs.Ytonjhnglcffihaa.Tab
