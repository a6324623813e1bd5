/- PROVED: what the small functions of a table answer: New, made, Len, Buckets, Text. Conditions: those each theorem states. -/
import Derived.Test.YtonjhnglcffihaaTabLib
set_option linter.unusedVariables false
set_option linter.unusedSimpArgs false
namespace Go.Proofs.Ytonjhnglcffihaa.Tab
open Go Go.RowKit Go.Proofs.Ytonjhnglcffihaa.Print Go.Proofs.YtonjhnglcffihaaW.PrintWords Go.Proofs.YtonjhnglcffihaaW.PrintLast Go.Proofs.YtonjhnglcffihaaW.PrintMore

theorem made_nil (w : World) : Calls Try.prog 31 #[.pointer none] w fun e w' => e = .returned (.bool false) ∧ w' = w := by
  go_enter Try.func31, Try.ntmps31
  go_wp2
  go_ret
  exact ⟨rfl, rfl⟩
theorem made_cells (w : World) (B bm : Nat) (h1 : w.cell? ⟨B, 1, none⟩ = some (.map (some bm))) : Calls Try.prog 31 #[.pointer (some ⟨B, 0, none⟩)] w fun e w' => e = .returned (.bool true) ∧ w' = w := by
  have q59 : ∀ (w : World) (r : Option Nat), (binOp .neq 59 (.map r) (.map none)).run Try.prog w = .ok (.bool (!r.isNone)) w := fun w r => run_neq_map_nil w _ _ _ r Try.underlying59
  go_enter Try.func31, Try.ntmps31
  go_wp2
  go_ret
  exact ⟨rfl, rfl⟩
theorem Tab.made {w : World} {S : Nat → Prop} {B : Nat} {st : St} (h : Tab w S B st) : Calls Try.prog 31 #[.pointer (some ⟨B, 0, none⟩)] w fun e w' => e = .returned (.bool true) ∧ w' = w := by
  obtain ⟨o, A, bm, vs, cap, D, h⟩ := h
  exact made_cells w B bm h.cells.2.1
theorem buckets_nil (w : World) : Calls Try.prog 13 #[.pointer none] w fun e w' => e = .returned (.int .i64 0) ∧ w' = w := by
  go_enter Try.func13, Try.ntmps13
  go_wp2_with (go_at_call 31; refine (made_nil _).mono ?_; rintro e w1 ⟨rfl, rfl⟩)
  go_ret
  exact ⟨rfl, rfl⟩
theorem len_nil (w : World) : Calls Try.prog 14 #[.pointer none] w fun e w' => e = .returned (.int .i64 0) ∧ w' = w := by
  go_enter Try.func14, Try.ntmps14
  go_wp2_with (go_at_call 31; refine (made_nil _).mono ?_; rintro e w1 ⟨rfl, rfl⟩)
  go_ret
  exact ⟨rfl, rfl⟩
theorem Tab.buckets {w : World} {S : Nat → Prop} {B : Nat} {st : St} (h : Tab w S B st) : Calls Try.prog 13 #[.pointer (some ⟨B, 0, none⟩)] w fun e w' => e = .returned (.int .i64 (st.n : Int)) ∧ w' = w := by
  obtain ⟨o, A, bm, vs, cap, D, h⟩ := h
  obtain ⟨c0, c1, c2, cf⟩ := h.cells
  go_enter Try.func13, Try.ntmps13
  go_wp2_with (go_at_call 31; refine (made_cells _ B bm c1).mono ?_; rintro e w1 ⟨rfl, rfl⟩)
  go_ret
  exact ⟨rfl, rfl⟩
theorem mkey (h : Int) (hw : (Lit.int .i64 h).wf = true) : keyOf Try.prog 3 (.int .i64 h) = some (.int .i64 h) := Maps.keyOf_int_mk Try.underlying3 hw
theorem mlaw : Maps.Keyed Try.prog 3 := Maps.int_keyed Try.underlying3
theorem Tab.len {w : World} {S : Nat → Prop} {B : Nat} {st : St} (h : Tab w S B st) : Calls Try.prog 14 #[.pointer (some ⟨B, 0, none⟩)] w fun e w' => e = .returned (.int .i64 (st.L.length : Int)) ∧ w' = w := by
  obtain ⟨o, A, bm, vs, cap, D, h⟩ := h
  obtain ⟨c0, c1, c2, cf⟩ := h.cells
  have hown := h.map
  have hsz := h.mo.size
  go_enter Try.func14, Try.ntmps14
  go_wp2_with (first | (go_at_call 31; refine (made_cells _ B bm c1).mono ?_; rintro e w1 ⟨rfl, rfl⟩) | (at_len; refine wpList_len_own _ rfl _ 59 rfl 3 9 Try.underlying59 _ bm _ D rfl hown ?_))
  go_ret
  exact ⟨rfl, rfl⟩
theorem text_nil (w : World) (x : Int) : Calls Try.prog 22 #[.pointer none, .int .i64 x] w fun e w' => e = .returned (.tuple #[.string ByteArray.empty, .bool false]) ∧ w' = w := by
  go_enter Try.func22, Try.ntmps22
  go_wp2_with (go_at_call 31; refine (made_nil _).mono ?_; rintro e w1 ⟨rfl, rfl⟩)
  go_ret2
  exact ⟨rfl, rfl⟩
theorem zero9 (w : World) : (zeroValue 9).run Try.prog w = .ok (.string ByteArray.empty) w := by kernel_rfl
/-- 'v, ok := m[k]' at string elements. -/
theorem lookup_ok_str {P : Program} (w : World) {ops : Array Oper} {rest : List Oper} {o : Oper} {a : Act} {Q : Exit → Act → World → Prop} (hg : o.guard = none) (m x : Operand) (t : TypeId) (hop : o.op = Op.lookup t m x true)
    (k e : TypeId) (K : Maps.Keyed P k) (ht : P.underlying t = some (.map k e)) (he : P.underlying e = some .string) (hz : (zeroValue e).run P w = .ok (.string ByteArray.empty) w) (b n : Nat) (D : DataW Unit)
    (hm : a.eval m = .map (some b)) (hown : w.ownsMap P k (plainElem P e) b n D) (key : Value) (kl : Lit) (hx : a.eval x = key) (hkey : keyOf P k key = some kl)
    (hK : ∀ c : ByteArray, D.atKey kl (.lit (.string [])) = .lit (.string c.data.toList) → wpList P ops Q rest (a.put o.dst (.tuple #[.string c, .bool (Maps.has D kl)])) w) :
    wpList P ops Q (o :: rest) a w :=
  wpList_lookup_own_ok w hg m x t hop k e K ht (plainElem P e) hz (.lit (.string [])) [] (plainElem_string (s := ByteArray.empty) he (by unfold maxLen; simp)) b n D hm hown key kl hx hkey (fun v ps hv => by
    obtain ⟨c, rfl, hc, _⟩ := plainElem_string_inv he hv
    exact hK c (congrArg Prod.fst hc))
/-- What a handle's text is. -/
def St.text (st : St) (h : Int) : Option ByteArray := (st.L.find? fun x => x.h == h).map En.s
theorem lit_inj {a b : ByteArray} (h : (DataW.lit (H := Unit) (.string a.data.toList)) = .lit (.string b.data.toList)) : a = b := by
  have : a.data.toList = b.data.toList := by injection h with h; injection h
  cases a; cases b; simp at this; simp [this]
theorem MapOf.text {st : St} {D : DataW Unit} (m : MapOf st.L D) {h : Int} {c : ByteArray} (hc : D.atKey (.int .i64 h) (.lit (.string [])) = .lit (.string c.data.toList)) : c = (st.text h).getD ByteArray.empty ∧ Maps.has D (.int .i64 h) = (st.text h).isSome := by
  rw [m.has]
  unfold St.text
  cases hf : st.L.find? (fun x => x.h == h) with
  | none =>
    have hn := List.find?_eq_none.1 hf
    rw [m.none h (fun x hx e => hn x hx (by simp [e]))] at hc
    refine ⟨?_, ?_⟩
    · exact (lit_inj (a := ByteArray.empty) (by simpa using hc)).symm
    · simp only [Option.map_none, Option.isSome_none]
      rw [List.any_eq_false]
      exact hn
  | some x =>
    have hx := List.mem_of_find?_eq_some hf
    have he : x.h = h := by simpa using List.find?_some hf
    subst he
    rw [m.at_ x hx] at hc
    refine ⟨(lit_inj hc).symm, ?_⟩
    simp only [Option.map_some, Option.isSome_some]
    rw [List.any_eq_true]
    exact ⟨x, hx, by simp⟩
theorem Tab.text {w : World} {S : Nat → Prop} {B : Nat} {st : St} (h : Tab w S B st) (x : Int) (hx : (Lit.int .i64 x).wf = true) :
    Calls Try.prog 22 #[.pointer (some ⟨B, 0, none⟩), .int .i64 x] w fun e w' => e = .returned (.tuple #[.string ((st.text x).getD ByteArray.empty), .bool (st.text x).isSome]) ∧ w' = w := by
  obtain ⟨o, A, bm, vs, cap, D, h⟩ := h
  obtain ⟨c0, c1, c2, cf⟩ := h.cells
  have hown := h.map
  have hmo := h.mo
  clear h
  go_enter Try.func22, Try.ntmps22
  go_wp2_with (first | (go_at_call 31; refine (made_cells _ B bm c1).mono ?_; rintro e w1 ⟨rfl, rfl⟩) | (at_lookup; refine lookup_ok_str _ rfl _ _ 59 rfl 3 9 mlaw Try.underlying59 Try.underlying9 (zero9 _) bm _ D rfl hown _ _ rfl (mkey _ hx) ?_; intro c hat))
  go_ret2
  obtain ⟨e1, e2⟩ := hmo.text hat
  exact ⟨by rw [← e1, ← e2]; rfl, rfl⟩
end Go.Proofs.Ytonjhnglcffihaa.Tab
