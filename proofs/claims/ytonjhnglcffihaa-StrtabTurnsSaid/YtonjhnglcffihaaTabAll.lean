/- PROVED: a table's calls where its blocks lie beyond a number; the chapter's example. Conditions: those each theorem states. -/
import Derived.Test.YtonjhnglcffihaaTabDrop
import Derived.Test.YtonjhnglcffihaaTabNew
set_option linter.unusedVariables false
set_option linter.unusedSimpArgs false
namespace Go.Proofs.Ytonjhnglcffihaa.Tab
open Go Go.RowKit Go.Proofs.Ytonjhnglcffihaa.Print Go.Proofs.YtonjhnglcffihaaW.PrintWords Go.Proofs.YtonjhnglcffihaaW.PrintLast Go.Proofs.YtonjhnglcffihaaW.PrintMore

/-- The blocks from a number on. -/
def From (N : Nat) : Nat → Prop := fun k => N ≤ k
theorem ext_from {N : Nat} {w w' : World} (h : N ≤ w.heap.size) : ∀ k, ext (From N) w w' k → From N k := fun k hk => by
  rcases hk with hk | hk
  · exact hk
  · exact Nat.le_trans h hk.1
def St.putE (st : St) (s : ByteArray) (x : Int) : Int := if x < 1 then 1 else if ((st.find s).isSome || (st.text x).isSome) = true then 17 else 0
def St.put (st : St) (s : ByteArray) (x : Int) : St := if x < 1 then st else if ((st.find s).isSome || (st.text x).isSome) = true then st else st.add s x
def St.dropE (st : St) (x : Int) : Int := if (st.text x).isSome = true then 0 else 5
def St.drop (st : St) (x : Int) : St := if (st.text x).isSome = true then st.del x else st
theorem Tab.new (w : World) : Calls Try.prog 9 #[] w fun e w' => ∃ B, e = .returned (.pointer (some ⟨B, 0, none⟩)) ∧ Tab w' (fun k => w.heap.size ≤ k ∧ k < w'.heap.size) B St.new ∧ Below w.heap.size w w' := new_calls w
/-- Put, whatever comes of it. -/
theorem Tab.put_gen {w : World} {S : Nat → Prop} {B : Nat} {st : St} (h : Tab w S B st) (s : ByteArray) (hs : s.size ≤ maxLen) (x : Int) (hw : (Lit.int .i64 x).wf = true) (hq : st.q + 1 ≤ 1000)
    (hR : st.n < st.L.length + 1 → RenewOk ⟨st.L ++ [⟨s, x, st.q⟩], st.n, st.q + 1⟩ (2 * st.n)) :
    Calls Try.prog 16 #[.pointer (some ⟨B, 0, none⟩), .string s, .int .i64 x] w fun e w' => e = .returned (.int .i64 (st.putE s x)) ∧ Tab w' (ext S w w') B (st.put s x) ∧ Only S w w' := by
  unfold St.putE St.put
  by_cases h1 : x < 1
  · rw [if_pos h1, if_pos h1]
    refine (h.put_arg s x h1).mono ?_
    rintro e w' ⟨rfl, rfl⟩
    exact ⟨rfl, h.mono (fun k _ hk => Or.inl hk), Only.refl _ _⟩
  · rw [if_neg h1, if_neg h1]
    by_cases h2 : ((st.find s).isSome || (st.text x).isSome) = true
    · rw [if_pos h2, if_pos h2]
      refine (h.put_there s hs x (by omega) hw h2).mono ?_
      rintro e w' ⟨rfl, hb⟩
      exact ⟨rfl, (h.below hb).mono (fun k _ hk => Or.inl hk), Only.of_below hb⟩
    · rw [if_neg h2, if_neg h2]
      simp only [Bool.or_eq_true, not_or, Bool.not_eq_true, Option.isSome_eq_false_iff, Option.isNone_iff_eq_none] at h2
      exact h.put_add s hs x (by omega) hw h2.1 h2.2 hq hR
theorem Tab.drop_gen {w : World} {S : Nat → Prop} {B : Nat} {st : St} (h : Tab w S B st) (x : Int) (hw : (Lit.int .i64 x).wf = true)
    (hR : (4 < st.n ∧ 4 * (st.L.filter fun y => !(y.h == x)).length < st.n) → RenewOk ⟨st.L.filter fun y => !(y.h == x), st.n, st.q⟩ (st.n / 2)) :
    Calls Try.prog 18 #[.pointer (some ⟨B, 0, none⟩), .int .i64 x] w fun e w' => e = .returned (.int .i64 (st.dropE x)) ∧ Tab w' (ext S w w') B (st.drop x) ∧ Only S w w' := by
  unfold St.dropE St.drop
  cases ht : st.text x with
  | none =>
    refine (h.drop_none x hw ht).mono ?_
    rintro e w' ⟨rfl, rfl⟩
    exact ⟨rfl, h.mono (fun k _ hk => Or.inl hk), Only.refl _ _⟩
  | some s => exact h.drop_some x hw s ht hR
theorem Tab.put_as {w : World} {N : Nat} {B : Nat} {st st' : St} {r : Int} (h : Tab w (From N) B st) (hN : N ≤ w.heap.size) (s : ByteArray) (hs : s.size ≤ maxLen) (x : Int) (hw : (Lit.int .i64 x).wf = true) (hq : st.q + 1 ≤ 1000)
    (hR : st.n < st.L.length + 1 → RenewOk ⟨st.L ++ [⟨s, x, st.q⟩], st.n, st.q + 1⟩ (2 * st.n)) (e1 : st.putE s x = r) (e2 : st.put s x = st') :
    Calls Try.prog 16 #[.pointer (some ⟨B, 0, none⟩), .string s, .int .i64 x] w fun e w' => e = .returned (.int .i64 r) ∧ Tab w' (From N) B st' ∧ Below N w w' := by
  subst e1; subst e2
  refine (h.put_gen s hs x hw hq hR).mono ?_
  rintro e w' ⟨rfl, h1, o⟩
  exact ⟨rfl, h1.mono (fun k _ hk => ext_from hN k hk), o.below (fun k hk => hk) hN⟩
theorem Tab.drop_as {w : World} {N : Nat} {B : Nat} {st st' : St} {r : Int} (h : Tab w (From N) B st) (hN : N ≤ w.heap.size) (x : Int) (hw : (Lit.int .i64 x).wf = true)
    (hR : (4 < st.n ∧ 4 * (st.L.filter fun y => !(y.h == x)).length < st.n) → RenewOk ⟨st.L.filter fun y => !(y.h == x), st.n, st.q⟩ (st.n / 2)) (e1 : st.dropE x = r) (e2 : st.drop x = st') :
    Calls Try.prog 18 #[.pointer (some ⟨B, 0, none⟩), .int .i64 x] w fun e w' => e = .returned (.int .i64 r) ∧ Tab w' (From N) B st' ∧ Below N w w' := by
  subst e1; subst e2
  refine (h.drop_gen x hw hR).mono ?_
  rintro e w' ⟨rfl, h1, o⟩
  exact ⟨rfl, h1.mono (fun k _ hk => ext_from hN k hk), o.below (fun k hk => hk) hN⟩
def sa : ByteArray := ⟨#[97]⟩
def sb : ByteArray := ⟨#[98]⟩
def st1 : St := St.new.put sa 7
def st2 : St := st1.put sb 3
def st3 : St := st2.drop 7
theorem ab : sa ≠ sb := by decide
theorem st1_eq : st1 = ⟨[⟨sa, 7, 0⟩], 4, 1⟩ := rfl
theorem st2_eq : st2 = ⟨[⟨sa, 7, 0⟩, ⟨sb, 3, 1⟩], 4, 2⟩ := by
  unfold st2 St.put; rw [st1_eq]; unfold St.find St.text St.add; simp [ab]
theorem st3_eq : st3 = ⟨[⟨sb, 3, 1⟩], 4, 2⟩ := by
  unfold st3 St.drop; rw [st2_eq]; unfold St.text St.del; simp
theorem no_calls (x : Int) (w : World) : Calls Try.prog 17 #[.int .i64 x] w fun e w' => e = .returned (.int .i64 x) ∧ w' = w := by
  go_enter Try.func17, Try.ntmps17
  go_wp2
  go_ret
  exact ⟨rfl, rfl⟩
set_option maxHeartbeats 4000000 in
set_option maxRecDepth 100000 in
theorem alive_calls (w : World) : Calls Try.prog 10 #[] w fun e w' => e = .returned (.bool true) ∧ Below w.heap.size w w' := by
  have e2 : st1.putE sb 3 = 0 := by unfold St.putE; rw [st1_eq]; unfold St.find St.text; simp [ab]
  have e3 : st2.dropE 7 = 0 := by unfold St.dropE; rw [st2_eq]; rfl
  have e4 : ((st3.n : Nat) : Int) = 4 := by rw [st3_eq]; rfl
  have e5 : ((st3.L.length : Nat) : Int) = 1 := by rw [st3_eq]; rfl
  have t1 := True.intro
  have t2 := True.intro
  have t3 := True.intro
  have t4 := True.intro
  have t5 := True.intro
  have wa : sa.size ≤ maxLen := by decide
  have wb : sb.size ≤ maxLen := by decide
  go_enter Try.func10, Try.ntmps10
  go_wp2_with (first
    | (go_at_call 9; refine (Tab.new _).mono ?_; rintro e w1 ⟨B, rfl, h1, b1⟩; have H1 := Aside0.mk (h1.mono (S' := From w.heap.size) (fun k _ hk => hk.1)); have B1 := Aside0.mk b1; clear h1 b1)
    | (go_at_call 16; have _t := t1; refine (H1.out.put_as (r := 0) B1.out.size sa wa 7 (by decide) (by decide) (fun h => absurd h (by decide)) rfl (st' := st1) rfl).mono ?_; rintro e w2 ⟨rfl, h2, o2⟩; have H2 := Aside0.mk h2; have B2 := Aside0.mk (B1.out.trans o2); clear h2 o2 t1)
    | (go_at_call 16; have _t := t2; refine (H2.out.put_as (r := 0) B2.out.size sb wb 3 (by decide) (by rw [st1_eq]; decide) (fun h => absurd h (by rw [st1_eq]; decide)) e2 (st' := st2) rfl).mono ?_; rintro e w3 ⟨rfl, h3, o3⟩; have H3 := Aside0.mk h3; have B3 := Aside0.mk (B2.out.trans o3); clear h3 o3 t2)
    | (go_at_call 19; have _t := t3; refine (H3.out.find_some (x := ⟨sa, 7, 0⟩) sa wa (by rw [st2_eq]; rfl)).mono ?_; rintro e w4 ⟨rfl, b4⟩; have H4 := Aside0.mk (H3.out.below b4); have B4 := Aside0.mk (B3.out.trans (b4.mono B3.out.size)); clear b4 t3)
    | (go_at_call 16; have _t := t4; refine (H4.out.put_there sa wa 9 (by decide) (by decide) (by rw [st2_eq]; rfl)).mono ?_; rintro e w5 ⟨rfl, b5⟩; have H5 := Aside0.mk (H4.out.below b5); have B5 := Aside0.mk (B4.out.trans (b5.mono B4.out.size)); clear b5 t4)
    | (go_at_call 18; refine (H5.out.drop_as (r := 0) B5.out.size 7 (by decide) (fun h => absurd h (by rw [st2_eq]; decide)) e3 (st' := st3) rfl).mono ?_; rintro e w6 ⟨rfl, h6, o6⟩; have H6 := Aside0.mk h6; have B6 := Aside0.mk (B5.out.trans o6); clear h6 o6)
    | (go_at_call 19; have _t := t5; refine (H6.out.find_none sa wa (by rw [st3_eq]; decide)).mono ?_; rintro e w7 ⟨rfl, b7⟩; have H7 := Aside0.mk (H6.out.below b7); have B7 := Aside0.mk (B6.out.trans (b7.mono B6.out.size)); clear b7 t5)
    | (go_at_call 17; refine (no_calls _ _).mono ?_; rintro e w8 ⟨rfl, hw8⟩; have hw8 := hw8.symm; subst hw8)
    | (go_at_call 13; refine H7.out.buckets.mono ?_; rintro e w8 ⟨rfl, hw8⟩; rw [e4]; have hw8 := hw8.symm; subst hw8)
    | (go_at_call 14; refine H7.out.len.mono ?_; rintro e w8 ⟨rfl, hw8⟩; rw [e5]; have hw8 := hw8.symm; subst hw8))
  go_ret
  exact ⟨rfl, B7.out⟩
end Go.Proofs.Ytonjhnglcffihaa.Tab
