/- PROVED: the law StrtabSpreads's function returns true. Conditions: those that its argument's reading gives. -/
import Derived.Test.YtonjhnglcffihaaTabActs
set_option linter.unusedVariables false
set_option linter.unusedSimpArgs false
namespace Go.Proofs.Ytonjhnglcffihaa.Tab
open Go Go.RowKit Go.Proofs.Ytonjhnglcffihaa.Print Go.Proofs.YtonjhnglcffihaaW.PrintWords Go.Proofs.YtonjhnglcffihaaW.PrintLast Go.Proofs.YtonjhnglcffihaaW.PrintMore
/-- Never too many buckets. -/
def Spread (st : St) : Prop := 4 < st.n → st.n ≤ 4 * st.L.length
theorem spread_new : Spread St.new := fun h => absurd h (by decide)
theorem spread_put {st : St} (o : st.Ok) (h : Spread st) (s : ByteArray) (x : Int) : Spread (st.put s x) := by
  unfold St.put
  split
  · exact h
  · split
    · exact h
    · intro h4
      have := o.room
      have hs := h
      unfold Spread at hs
      unfold St.add at h4 ⊢
      simp only [List.length_append, List.length_cons, List.length_nil] at h4 ⊢
      split at h4 <;> split <;> omega
theorem filter_len {st : St} (o : st.Ok) (x : Int) : st.L.length ≤ (st.L.filter fun y => !(y.h == x)).length + 1 := by
  have ho := o.once
  generalize st.L = L at ho
  clear o
  induction L with
  | nil => simp
  | cons z L ih =>
    have ho' := List.pairwise_cons.1 ho
    by_cases e : z.h = x
    · rw [List.filter_cons_of_neg (by simp [e])]
      rw [List.filter_eq_self.2 (fun u hu => by simpa using fun e3 => (ho'.1 u hu).2 (by rw [e, e3]))]
      simp
    · rw [List.filter_cons_of_pos (by simp [e])]
      have := ih ho'.2
      simp only [List.length_cons]; omega
theorem spread_drop {st : St} (o : st.Ok) (h : Spread st) (x : Int) : Spread (st.drop x) := by
  unfold St.drop
  split
  · intro h4
    have hl := filter_len o x
    have hs := h
    unfold Spread at hs
    have h8 : 4 < st.n → 8 ≤ st.n := fun h => by
      obtain ⟨k, hk⟩ := o.two
      rw [hk] at h ⊢
      rcases Nat.lt_or_ge k 3 with h3 | h3
      · obtain rfl | rfl | rfl : k = 0 ∨ k = 1 ∨ k = 2 := by omega
        all_goals simp at h
      · have h := Nat.pow_le_pow_right (n := 2) (by decide) h3; simpa using h
    unfold St.del at h4 ⊢
    dsimp only at h4 ⊢
    split at h4
    · rename_i hc
      rw [if_pos hc]
      have := h8 hc.1
      have := hs hc.1
      omega
    · rename_i hc
      rw [if_neg hc]
      omega
  · exact h
theorem spread_act {st : St} (o : st.Ok) (h : Spread st) (x : S29) : Spread (st.act x) := by
  unfold St.act
  split
  · exact spread_put o h _ _
  · split
    · exact spread_drop o h _
    · exact h
theorem pow_and {n : Nat} (h : ∃ k, n = 2 ^ k) (h1 : n ≤ 1048576) : Go.bits .and .i64 (n : Int) ((n : Int) - 1) = 0 := by
  obtain ⟨k, hk⟩ := h
  have hp : 0 < n := by rw [hk]; exact Nat.pow_pos (by decide)
  rw [show ((n : Int) - 1) = ((n - 1 : Nat) : Int) by omega, i64_and_nat n (n - 1) (by omega) (by omega)]
  have : n &&& (n - 1) = 0 := by
    have := Nat.and_two_pow_sub_one_eq_mod n k
    rw [← hk] at this
    rw [this, Nat.mod_self]
  rw [this]; rfl
set_option maxHeartbeats 4000000 in
set_option maxRecDepth 100000 in
theorem spreads_walk (A0 : Option Addr) (c0 : Nat) (l0 : List S29) (w : World) (hr0 : Kd.C k29 w A0 l0.length l0) (hc0 : l0.length ≤ c0) (hv : ∀ v ∈ l0, v.f1.size ≤ maxLen ∧ (Lit.int .i64 v.f2).wf = true) :
    Calls Try.prog 3 #[.slice A0 l0.length c0] w fun e w' => e = .returned (.bool true) ∧ Below w.heap.size w w' := by
  obtain ⟨b, hL, hb⟩ := long_some l0
  have HL := Aside0.mk hL
  have HR0 := Aside0.mk hr0
  have HV := Aside0.mk hv
  clear hL hr0 hv
  cases b with
  | true =>
    go_enter Try.func3, Try.ntmps3
    go_wp2_with (first
      | (go_at_call 9; refine (Tab.new _).mono ?_; rintro e w1 ⟨B, rfl, h1, b1⟩; have B1 := Aside0.mk b1; clear h1 b1)
      | (go_at_call 10; refine (alive_calls _).mono ?_; rintro e w2 ⟨rfl, b2⟩; have B2 := Aside0.mk (B1.out.trans (b2.mono B1.out.size)); clear b2)
      | (go_at_call 11; refine (heirloomlaw05_long.calls _ A0 c0 l0 true _ (Kd.C_below HR0.out B2.out) hc0 HL.out).mono ?_; rintro e w3 ⟨rfl, d3⟩; obtain ⟨n3, hd3⟩ := d3.out; subst hd3))
    go_ret
    exact ⟨rfl, pw_below_drewN B2.out _⟩
  | false =>
    have hlen := hb rfl
    clear hb
    go_enter Try.func3, Try.ntmps3
    go_wp2_with (first
      | (go_at_call 9; refine (Tab.new _).mono ?_; rintro e w1 ⟨B, rfl, h1, b1⟩; have H1 := Aside0.mk (h1.mono (S' := From w.heap.size) (fun k _ hk => hk.1)); have B1 := Aside0.mk b1; clear h1 b1)
      | (go_at_call 10; refine (alive_calls _).mono ?_; rintro e w2 ⟨rfl, b2⟩; have H2 := Aside0.mk (H1.out.below b2); have B2 := Aside0.mk (B1.out.trans (b2.mono B1.out.size)); clear b2)
      | (go_at_call 11; refine (heirloomlaw05_long.calls _ A0 c0 l0 false _ (Kd.C_below HR0.out B2.out) hc0 HL.out).mono ?_; rintro e w3 ⟨rfl, d3⟩; obtain ⟨n3, hd3⟩ := d3.out; subst hd3; clear d3))
    go_loopw [4] (fun i wr => ∃ q : Nat, q ≤ l0.length ∧ i = .int .i64 q ∧ Aside0 (∃ st, Tab wr (From w.heap.size) B st ∧ st.q ≤ q ∧ Spread st) ∧ Aside0 (Below w.heap.size w wr)) (fun i _ => l0.length - (intOf i).toNat)
    case atStart => exact ⟨0, by omega, rfl, ⟨⟨St.new, H2.out.below (pw_below_drewN (Below.refl _ _) _), Nat.le_refl _, spread_new⟩⟩, ⟨pw_below_drewN B2.out _⟩⟩
    case round =>
      obtain ⟨q, hq, rfl, HT, HB⟩ := hrel
      by_cases hlt : q < l0.length
      · have hlt0 : (q : Int) < (l0.length : Int) := by omega
        have hq0 : (0 : Int) ≤ (q : Int) := by omega
        obtain ⟨st, hT, hsq, hsp⟩ := HT.out
        clear HT
        have HT := Aside0.mk hT
        have HS := Aside0.mk hsp
        obtain ⟨ad, e9, x0, x1, x2⟩ := at_T29 HR0.out (q : Int) (by omega) (by omega)
        cases e9
        replace x0 := (HB.out.cell (World.block_lt_of_cell? w _ x0)).trans x0
        replace x1 := (HB.out.cell (World.block_lt_of_cell? w _ x1)).trans x1
        replace x2 := (HB.out.cell (World.block_lt_of_cell? w _ x2)).trans x2
        simp only [Int.toNat_natCast] at x0 x1 x2
        have hm : rd_T29 l0 q ∈ l0 := by
          unfold rd_T29
          rw [Int.toNat_natCast, List.getD, List.getElem?_eq_getElem hlt]
          exact List.getElem_mem _
        obtain ⟨hs, hw⟩ := HV.out _ hm
        generalize rd_T29 l0 q = xx at x0 x1 x2 hs hw
        have hq1 : st.q + 1 ≤ 1000 := by omega
        have hs2 := spread_act hT.1 hsp xx
        have hq2 : (st.act xx).q ≤ q + 1 := Nat.le_trans (st.act_q xx) (by omega)
        have HD := Aside0.mk (fun w' (h : Tab w' (From w.heap.size) B st) => do_calls h xx hs hw hq1)
        generalize st.act xx = s2 at hs2 hq2 HD
        generalize st.actE xx = e2 at HD
        have HS2 := Aside0.mk hs2
        clear hT hsp hs2 HS hs hw hsq
        go_wp2_with (first
          | (go_at_call 12; refine (HD.out _ HT.out).mono ?_; rintro e w1 ⟨rfl, h1, o1⟩; have H1 := Aside0.mk (h1.mono (S' := From w.heap.size) (fun k _ hk => ext_from HB.out.size k hk)); have B1 := Aside0.mk (HB.out.trans (o1.below (fun k hk => hk) HB.out.size)); clear h1 o1))
        refine H1.out.buckets.mono ?_
        rintro e w2 ⟨rfl, hw2⟩
        have hw2 := hw2.symm
        subst hw2
        have o := H1.out.1
        have f1 : ¬ ((s2.n : Int) < 4) := by have := o.pos; omega
        have hn5 : s2.n ≤ 1048576 := by have := o.few; have := o.q; omega
        have f4 : ¬ ((s2.L.length : Int) > (s2.n : Int)) := by have := o.room; omega
        have f2 := pow_and o.two hn5
        have hll : (s2.L.length : Int) ≤ 1000 := by have := o.many; have := o.q; omega
        have hwq : Aside0 (wrap64 ((q : Int) + 1) = ((q + 1 : Nat) : Int)) := ⟨by unfold wrap64; omega⟩
        clear o
        by_cases h8 : 8 < s2.n
        · have f5 : (s2.n : Int) > 8 := by omega
          have f6 : ¬ (4 * (s2.L.length : Int) < (s2.n : Int) / 2) := by have := HS2.out (by omega); omega
          have f8 : wrap64 (4 * (s2.L.length : Int)) = 4 * (s2.L.length : Int) := by unfold wrap64; omega
          have f9 : wrap64 ((s2.n : Int) - 1) = (s2.n : Int) - 1 := by unfold wrap64; omega
          go_wp2_with (go_at_call 14; refine H1.out.len.mono ?_; rintro e w2 ⟨rfl, hw2⟩; have hw2 := hw2.symm; subst hw2)
          exact ⟨⟨q + 1, hlt, rfl, ⟨⟨s2, H1.out, hq2, HS2.out⟩⟩, B1⟩, by show l0.length - ((q + 1 : Nat) : Int).toNat < l0.length - (q : Int).toNat; exact Nat.sub_lt_sub_left hlt (by omega)⟩
        · have f5 : ¬ (s2.n : Int) > 8 := by omega
          have f9 : wrap64 ((s2.n : Int) - 1) = (s2.n : Int) - 1 := by unfold wrap64; omega
          go_wp2_with (go_at_call 14; refine H1.out.len.mono ?_; rintro e w2 ⟨rfl, hw2⟩; have hw2 := hw2.symm; subst hw2)
          exact ⟨⟨q + 1, hlt, rfl, ⟨⟨s2, H1.out, hq2, HS2.out⟩⟩, B1⟩, by show l0.length - ((q + 1 : Nat) : Int).toNat < l0.length - (q : Int).toNat; exact Nat.sub_lt_sub_left hlt (by omega)⟩
      · have hlt0 : ¬ (q : Int) < (l0.length : Int) := by omega
        go_wp2
        go_ret
        exact ⟨rfl, HB.out⟩
end Go.Proofs.Ytonjhnglcffihaa.Tab
