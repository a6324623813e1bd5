/- PROVED: a table behind some calls. Conditions: those each theorem states. -/
import Derived.Test.YtonjhnglcffihaaTabActs
set_option linter.unusedVariables false
set_option linter.unusedSimpArgs false
namespace Go.Proofs.Ytonjhnglcffihaa.Tab
open Go Go.RowKit Go.Proofs.Ytonjhnglcffihaa.Print Go.Proofs.YtonjhnglcffihaaW.PrintWords Go.Proofs.YtonjhnglcffihaaW.PrintLast Go.Proofs.YtonjhnglcffihaaW.PrintMore
def run (l : List S29) : St := l.foldl St.act St.new
theorem run_snoc (l : List S29) (x : S29) : run (l ++ [x]) = (run l).act x := by simp [run]
theorem run_q (l : List S29) : (run l).q ≤ l.length := by
  have : ∀ (l : List S29) (st : St), (l.foldl St.act st).q ≤ st.q + l.length := by
    intro l
    induction l with
    | nil => intro st; simp
    | cons x l ih => intro st; have h1 := ih (st.act x); have h2 := st.act_q x; simp only [List.foldl_cons, List.length_cons]; omega
  simpa [run, St.new] using this l St.new
theorem St.Ok.put {st : St} (o : st.Ok) {s : ByteArray} {x : Int} (hs : s.size ≤ maxLen) (hw : (Lit.int .i64 x).wf = true) (hq : st.q + 1 ≤ 1000) : (st.put s x).Ok := by
  unfold St.put
  split
  · exact o
  · split
    · exact o
    · rename_i h1 h2
      simp only [Bool.or_eq_true, not_or, Bool.not_eq_true, Option.isSome_eq_false_iff, Option.isNone_iff_eq_none] at h2
      exact o.added hs hw (by omega) (St.find_none' h2.1) (St.text_none h2.2) hq
theorem St.Ok.drop {st : St} (o : st.Ok) (x : Int) : (st.drop x).Ok := by
  unfold St.drop
  split
  · exact o.deled x
  · exact o
theorem St.Ok.act {st : St} (o : st.Ok) {x : S29} (hs : x.f1.size ≤ maxLen) (hw : (Lit.int .i64 x.f2).wf = true) (hq : st.q + 1 ≤ 1000) : (st.act x).Ok := by
  unfold St.act
  split
  · exact o.put hs hw hq
  · split
    · exact o.drop _
    · exact o
theorem run_ok (l : List S29) (hv : ∀ v ∈ l, v.f1.size ≤ maxLen ∧ (Lit.int .i64 v.f2).wf = true) (hl : l.length ≤ 100) : (run l).Ok := by
  have : ∀ (l : List S29) (st : St), st.Ok → st.q + l.length ≤ 1000 → (∀ v ∈ l, v.f1.size ≤ maxLen ∧ (Lit.int .i64 v.f2).wf = true) → (l.foldl St.act st).Ok := by
    intro l
    induction l with
    | nil => intro st o _ _; exact o
    | cons x l ih =>
      intro st o h h2
      have h3 := h2 x (by simp)
      simp only [List.length_cons] at h
      have hq := st.act_q x
      exact ih (st.act x) (o.act h3.1 h3.2 (by omega)) (by omega) (fun v hv => h2 v (by simp [hv]))
  exact this l St.new St.new_ok (by simp [St.new]; omega) hv
/-- The blocks between two numbers. -/
def Btw (N M : Nat) : Nat → Prop := fun k => N ≤ k ∧ k < M
theorem ext_btw {N : Nat} {w w' : World} (h : N ≤ w.heap.size) (h2 : w.heap.size ≤ w'.heap.size) : ∀ k, ext (Btw N w.heap.size) w w' k → Btw N w'.heap.size k := fun k hk => by
  rcases hk with hk | hk
  · exact ⟨hk.1, Nat.lt_of_lt_of_le hk.2 h2⟩
  · exact ⟨Nat.le_trans h hk.1, hk.2⟩
theorem Tab.text_none {w : World} {S : Nat → Prop} {B : Nat} {st : St} (h : Tab w S B st) (x : Int) (hx : (Lit.int .i64 x).wf = true) (ht : st.text x = none) :
    Calls Try.prog 22 #[.pointer (some ⟨B, 0, none⟩), .int .i64 x] w fun e w' => e = .returned (.tuple #[.string ByteArray.empty, .bool false]) ∧ w' = w := by
  have := h.text x hx
  rw [ht] at this
  exact this
theorem Tab.text_some {w : World} {S : Nat → Prop} {B : Nat} {st : St} {s : ByteArray} (h : Tab w S B st) (x : Int) (hx : (Lit.int .i64 x).wf = true) (ht : st.text x = some s) :
    Calls Try.prog 22 #[.pointer (some ⟨B, 0, none⟩), .int .i64 x] w fun e w' => e = .returned (.tuple #[.string s, .bool true]) ∧ w' = w := by
  have := h.text x hx
  rw [ht] at this
  exact this
theorem Tab.find_as {w : World} {S : Nat → Prop} {B : Nat} {st : St} {o : Option En} (h : Tab w S B st) (s : ByteArray) (hs : s.size ≤ maxLen) (hf : st.find s = o) :
    Calls Try.prog 19 #[.pointer (some ⟨B, 0, none⟩), .string s] w fun e w' => e = .returned (.tuple #[.int .i64 ((o.map En.h).getD 0), .bool o.isSome]) ∧ Below w.heap.size w w' := by
  have := h.find s hs
  rw [hf] at this
  exact this
set_option maxHeartbeats 4000000 in
set_option maxRecDepth 100000 in
theorem made_calls (A0 : Option Addr) (c0 : Nat) (l0 : List S29) (w : World) (hr0 : Kd.C k29 w A0 l0.length l0) (hc0 : l0.length ≤ c0) (hv : ∀ v ∈ l0, v.f1.size ≤ maxLen ∧ (Lit.int .i64 v.f2).wf = true) (hlen : l0.length ≤ 100) :
    Calls Try.prog 21 #[.slice A0 l0.length c0] w fun e w' => ∃ B, e = .returned (.pointer (some ⟨B, 0, none⟩)) ∧ Tab w' (Btw w.heap.size w'.heap.size) B (run l0) ∧ Below w.heap.size w w' := by
  have HR0 := Aside0.mk hr0
  have HV := Aside0.mk hv
  clear hr0 hv
  go_enter Try.func21, Try.ntmps21
  go_wp2_with (first
    | (go_at_call 9; refine (Tab.new _).mono ?_; rintro e w1 ⟨B, rfl, h1, b1⟩; have H1 := Aside0.mk h1; have B1 := Aside0.mk b1; clear h1 b1))
  go_loopw [4] (fun i wr => ∃ q : Nat, q ≤ l0.length ∧ i = .int .i64 q ∧ Aside0 (Tab wr (Btw w.heap.size wr.heap.size) B (run (l0.take q))) ∧ Aside0 (Below w.heap.size w wr)) (fun i _ => l0.length - (intOf i).toNat)
  case atStart => exact ⟨0, by omega, rfl, ⟨H1.out⟩, B1⟩
  case round =>
    obtain ⟨q, hq, rfl, HT, HB⟩ := hrel
    by_cases hlt : q < l0.length
    · have hlt0 : (q : Int) < (l0.length : Int) := by omega
      have hq0 : (0 : Int) ≤ (q : Int) := by omega
      obtain ⟨ad, e9, x0, x1, x2⟩ := at_T29 HR0.out (q : Int) (by omega) (by omega)
      cases e9
      replace x0 := (HB.out.cell (World.block_lt_of_cell? w _ x0)).trans x0
      replace x1 := (HB.out.cell (World.block_lt_of_cell? w _ x1)).trans x1
      replace x2 := (HB.out.cell (World.block_lt_of_cell? w _ x2)).trans x2
      simp only [Int.toNat_natCast] at x0 x1 x2
      have hrd : rd_T29 l0 q = l0[q] := by
        unfold rd_T29
        rw [Int.toNat_natCast, List.getD, List.getElem?_eq_getElem hlt]
        rfl
      obtain ⟨hs, hw⟩ := HV.out _ (show rd_T29 l0 q ∈ l0 by rw [hrd]; exact List.getElem_mem _)
      have hrun : Aside0 (run (l0.take (q + 1)) = (run (l0.take q)).act (rd_T29 l0 q)) := ⟨by rw [hrd, ← run_snoc, List.take_succ_eq_append_getElem hlt]⟩
      generalize rd_T29 l0 q = xx at x0 x1 x2 hs hw hrun
      have hq1 : (run (l0.take q)).q + 1 ≤ 1000 := by have := run_q (l0.take q); rw [List.length_take] at this; omega
      have HD := Aside0.mk (fun w' (h : Tab w' (Btw w.heap.size wr.heap.size) B (run (l0.take q))) => do_calls h xx hs hw hq1)
      generalize (run (l0.take q)).actE xx = e2 at HD
      clear hs hw
      have hwq : Aside0 (wrap64 ((q : Int) + 1) = ((q + 1 : Nat) : Int)) := ⟨by unfold wrap64; omega⟩
      go_wp2_with (first
        | (go_at_call 12; refine (HD.out _ HT.out).mono ?_; rintro e w1 ⟨rfl, h1, o1⟩; have H2 := Aside0.mk (h1.mono (S' := Btw w.heap.size w1.heap.size) (fun k _ hk => ext_btw HB.out.size o1.size k hk)); have B2 := Aside0.mk (HB.out.trans (o1.below (fun k hk => hk.1) HB.out.size)); clear h1 o1))
      first
        | exact ⟨⟨q + 1, hlt, rfl, ⟨by rw [hrun.out]; exact H2.out⟩, B2⟩, by show l0.length - ((q + 1 : Nat) : Int).toNat < l0.length - (q : Int).toNat; exact Nat.sub_lt_sub_left hlt (by omega)⟩
        | (rw [hwq.out]; exact ⟨⟨q + 1, hlt, rfl, ⟨by rw [hrun.out]; exact H2.out⟩, B2⟩, by show l0.length - ((q + 1 : Nat) : Int).toNat < l0.length - (q : Int).toNat; exact Nat.sub_lt_sub_left hlt (by omega)⟩)
    · have hlt0 : ¬ (q : Int) < (l0.length : Int) := by omega
      obtain rfl : q = l0.length := by omega
      rw [List.take_length] at HT
      go_wp2
      go_ret
      exact ⟨B, rfl, HT.out, HB.out⟩
end Go.Proofs.Ytonjhnglcffihaa.Tab
