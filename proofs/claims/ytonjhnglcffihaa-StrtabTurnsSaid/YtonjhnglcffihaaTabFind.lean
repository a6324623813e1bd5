/- PROVED: what Find answers. Conditions: those each theorem states. -/
import Derived.Test.YtonjhnglcffihaaTabOne
import Derived.Deep.QuietTactic
import Derived.BigQuiet
set_option linter.unusedVariables false
set_option linter.unusedSimpArgs false
namespace Go.Proofs.Ytonjhnglcffihaa.Tab
open Go Go.RowKit Go.Proofs.Ytonjhnglcffihaa.Print Go.Proofs.YtonjhnglcffihaaW.PrintWords Go.Proofs.YtonjhnglcffihaaW.PrintLast Go.Proofs.YtonjhnglcffihaaW.PrintMore

theorem find_nil (w : World) (s : ByteArray) : Calls Try.prog 19 #[.pointer none, .string s] w fun e w' => e = .returned (.tuple #[.int .i64 0, .bool false]) ∧ w' = w := by
  go_enter Try.func19, Try.ntmps19
  go_wp2_with (go_at_call 31; refine (made_nil _).mono ?_; rintro e w1 ⟨rfl, rfl⟩)
  go_ret2
  exact ⟨rfl, rfl⟩
/-- A chain as a value, and its cells. -/
theorem ownsRow_val {w : World} {v : Value} {c : List En} (h : w.ownsRow 0 65 3 v c.length (flat c)) :
    ∃ p cap, v = .slice p c.length cap ∧ ∀ k x, c[k]? = some x → ∃ g, p = some ⟨g, 0, none⟩ ∧ v.ownBlock = some g ∧ w.cell? ⟨g, k * 3, none⟩ = some (.string x.s) ∧ w.cell? ⟨g, k * 3 + 1, none⟩ = some (.int .i64 x.h) ∧ w.cell? ⟨g, k * 3 + 2, none⟩ = some (.int .i64 x.q) := by
  rcases h.2 with ⟨rfl, h0⟩ | ⟨g, cap, cur, rfl, hb, hg, hn, hm, hs, ht⟩
  · refine ⟨none, 0, by rw [h0], fun k x hk => ?_⟩
    have := (List.getElem?_eq_some_iff.1 hk).1
    omega
  · refine ⟨_, cap, rfl, fun k x hk => ⟨g, rfl, rfl, ?_⟩⟩
    have hlt := (List.getElem?_eq_some_iff.1 hk).1
    obtain ⟨f0, f1, f2⟩ := flat_get c k x hk
    have key : ∀ j u, j < c.length * 3 → (flat c)[j]? = some u → w.cell? ⟨g, j, none⟩ = some u := fun j u hj hu => by
      rw [← ht, List.getElem?_take_of_lt hj] at hu
      rw [cell_of_row w g j cur 65 (0, 0) hg]
      simpa using hu
    rw [Nat.mul_comm 3 k] at f0 f1 f2
    exact ⟨key _ _ (by omega) f0, key _ _ (by omega) f1, key _ _ (by omega) f2⟩
theorem toList_inj {a b : ByteArray} (h : a.toList = b.toList) : a = b := by
  rw [ByteArray.toList_eq, ByteArray.toList_eq] at h
  cases a; cases b; simp at h; simp [h]
/-- Which entry has a text. -/
def St.find (st : St) (s : ByteArray) : Option En := st.L.find? fun x => decide (x.s = s)
theorem find_filter {α : Type} {f g : α → Bool} (h : ∀ p, f p = true → g p = true) (l : List α) : (l.filter g).find? f = l.find? f := Maps.find_filter_keep h l
theorem St.find_chain (st : St) (s : ByteArray) : (st.chain (bk st.n s)).find? (fun x => decide (x.s = s)) = st.find s :=
  find_filter (fun p hp => by simp at hp; simp [hp]) _
theorem find_hit {c : List En} {s : ByteArray} {k : Nat} {x : En} (hx : c[k]? = some x) (he : x.s = s) (hn : ∀ j y, j < k → c[j]? = some y → y.s ≠ s) : c.find? (fun x => decide (x.s = s)) = some x := by
  rw [List.find?_eq_some_iff_getElem]
  obtain ⟨hk, rfl⟩ := List.getElem?_eq_some_iff.1 hx
  refine ⟨by simpa using he, k, hk, rfl, fun j hj => ?_⟩
  have := hn j c[j] hj (List.getElem?_eq_getElem (by omega))
  simpa using this
theorem find_miss {c : List En} {s : ByteArray} (hn : ∀ j y, j < c.length → c[j]? = some y → y.s ≠ s) : c.find? (fun x => decide (x.s = s)) = none := by
  rw [List.find?_eq_none]
  intro x hx
  obtain ⟨j, hj, rfl⟩ := List.mem_iff_getElem.1 hx
  simpa using hn j _ hj (List.getElem?_eq_getElem hj)
def findV (o : Option En) : Value := .tuple #[.int .i64 ((o.map En.h).getD 0), .bool o.isSome]
theorem Tab.find {w : World} {S : Nat → Prop} {B : Nat} {st : St} (h : Tab w S B st) (s : ByteArray) (hs : s.size ≤ maxLen) :
    Calls Try.prog 19 #[.pointer (some ⟨B, 0, none⟩), .string s] w fun e w' => e = .returned (findV (st.find s)) ∧ Below w.heap.size w w' := by
  rw [← St.find_chain]
  obtain ⟨o, A, bm, vs, cap, D, h⟩ := h
  obtain ⟨c0, c1, c2, cf⟩ := h.cells
  have hn4 := o.pos
  have hn5 : st.n ≤ 1048576 := by have := o.few; have := o.q; omega
  have hbl := bk_lt st.n s (by omega) hn5
  have hbs := Aside0.mk (bucket_some s st.n hs (by omega) hn5)
  have hcell := h.ch.cell hbl
  obtain ⟨p, cp, hv, hx⟩ := ownsRow_val (h.row _ hbl)
  rw [hv] at hcell
  have HX := Aside0.mk hx
  have HCL : Aside0 ((st.chain (bk st.n s)).length ≤ 1000) := ⟨Nat.le_trans (List.length_filter_le _ _) (Nat.le_trans o.many o.q)⟩
  generalize st.chain (bk st.n s) = c at HCL hcell HX hx ⊢
  clear hx hv h
  generalize bk st.n s = b at *
  have hb0 : (0 : Int) ≤ (b : Int) := by omega
  have hb1 : (b : Int) < (st.n : Int) := by omega
  go_enter Try.func19, Try.ntmps19
  go_wp2_with (go_at_call 31; refine (made_cells _ B bm c1).mono ?_; rintro e w1 ⟨rfl, rfl⟩)
  go_big_quiet (first | (go_at_call 32; exact Calls.quiet_of (v := .int .i64 (b : Int)) ((strtab_bucket.calls _ _ _ _ _ hbs.out).mono (fun e w1 h => ⟨h.1, h.2.out⟩))))
  go_wp2
  go_loopw [25] (fun i wr => ∃ q : Nat, q ≤ c.length ∧ i = .int .i64 q ∧ Aside0 (∀ j y, j < q → c[j]? = some y → y.s ≠ s) ∧ Aside0 (Below w1.heap.size w1 wr)) (fun i _ => c.length - (intOf i).toNat)
  case atStart => exact ⟨0, by omega, rfl, ⟨fun j y hj => by omega⟩, ⟨by first | exact Below.refl _ _ | exact pw_below_drewN (Below.refl _ _) _⟩⟩
  case round =>
    obtain ⟨q, hq, rfl, HJ, HB⟩ := hrel
    by_cases hlt : q < c.length
    · have hlt0 : (q : Int) < (c.length : Int) := by omega
      obtain ⟨x, hxq⟩ : ∃ x, c[q]? = some x := ⟨_, List.getElem?_eq_getElem hlt⟩
      obtain ⟨g, rfl, _, x0, x1, x2⟩ := HX.out q x hxq
      replace x0 := (HB.out.cell (World.block_lt_of_cell? w1 _ x0)).trans x0
      replace x1 := (HB.out.cell (World.block_lt_of_cell? w1 _ x1)).trans x1
      replace x2 := (HB.out.cell (World.block_lt_of_cell? w1 _ x2)).trans x2
      have HXQ := Aside0.mk hxq
      clear hxq
      obtain ⟨xs, xh, xq⟩ := x
      dsimp only at x0 x1 x2
      by_cases hs2 : xs = s
      · subst hs2
        go_wp2
        go_ret2
        have hr := find_hit HXQ.out rfl HJ.out
        exact ⟨by rw [hr]; rfl, by first | exact below_alloc HB.out _ | exact (HB.out).alloc (HB.out.size) _⟩
      · have hs3 : (xs.toList == s.toList) = false := beq_eq_false_iff_ne.2 (fun e => hs2 (toList_inj e))
        go_wp2
        have hwp : wrap64 ((q : Int) + 1) = ((q + 1 : Nat) : Int) := by have := HCL.out; unfold wrap64; omega
        rw [hwp]
        exact ⟨⟨q + 1, hlt, rfl, ⟨fun j y hj hy => by
          rcases Nat.lt_succ_iff_lt_or_eq.1 hj with h | rfl
          · exact HJ.out j y h hy
          · rw [HXQ.out] at hy; cases hy; exact hs2⟩, ⟨below_alloc HB.out _⟩⟩, by show c.length - ((q + 1 : Nat) : Int).toNat < c.length - (q : Int).toNat; omega⟩
    · have hlt0 : ¬ (q : Int) < (c.length : Int) := by omega
      go_wp2
      go_ret2
      have hr := find_miss (c := c) (s := s) (fun j y hj => HJ.out j y (by omega))
      exact ⟨by rw [hr]; rfl, HB.out⟩
end Go.Proofs.Ytonjhnglcffihaa.Tab
