/- PROVED: the document's table (New, Find, Text). Conditions: those each theorem states. -/
import Derived.Test.YtonjhnglcffihaaTabChain
import Derived.Test.YtonjhnglcffihaaTabGone
import Derived.Test.YtonjhnglcffihaaPrintx2
set_option linter.unusedVariables false
set_option linter.unusedSimpArgs false
namespace Go.Proofs.Ytonjhnglcffihaa.Tab
open Go Go.RowKit Go.Proofs.Ytonjhnglcffihaa.Print Go.Proofs.YtonjhnglcffihaaW.PrintWords Go.Proofs.YtonjhnglcffihaaW.PrintLast Go.Proofs.YtonjhnglcffihaaW.PrintMore
def En.vals2 (x : En) : List Value := [.string x.s, .int .i64 x.h]
def flat2 (c : List En) : List Value := c.flatMap En.vals2
theorem flat2_length : ∀ c : List En, (flat2 c).length = c.length * 2
  | [] => rfl
  | x :: c => by
    have := flat2_length c
    simp only [flat2, List.flatMap_cons, List.length_append, En.vals2, List.length_cons, List.length_nil] at this ⊢
    omega
theorem flat2_append (a b : List En) : flat2 (a ++ b) = flat2 a ++ flat2 b := by simp [flat2]
theorem flat2_get : ∀ (c : List En) (i : Nat) (x : En), c[i]? = some x → (flat2 c)[2 * i]? = some (.string x.s) ∧ (flat2 c)[2 * i + 1]? = some (.int .i64 x.h)
  | [], i, x, h => by simp at h
  | y :: c, 0, x, h => by
    simp at h; subst h
    simp [flat2, En.vals2]
  | y :: c, i + 1, x, h => by
    have := flat2_get c i x (by simpa using h)
    simp only [flat2] at this ⊢
    rw [List.flatMap_cons, show y.vals2 = [Value.string y.s, Value.int .i64 y.h] from rfl]
    have e : ∀ j, (([Value.string y.s, Value.int .i64 y.h] : List Value) ++ c.flatMap En.vals2)[j + 2]? = (c.flatMap En.vals2)[j]? := fun j => by simp
    exact ⟨by rw [show 2 * (i + 1) = 2 * i + 2 by omega, e]; exact this.1, by rw [show 2 * (i + 1) + 1 = 2 * i + 1 + 2 by omega, e]; exact this.2⟩
theorem ownsRow_val2 {w : World} {base : Nat} {v : Value} {c : List En} (h : w.ownsRow base 68 2 v c.length (flat2 c)) :
    ∃ p cap, v = .slice p c.length cap ∧ ∀ k x, c[k]? = some x → ∃ g, p = some ⟨g, 0, none⟩ ∧ v.ownBlock = some g ∧ w.cell? ⟨g, k * 2, none⟩ = some (.string x.s) ∧ w.cell? ⟨g, k * 2 + 1, none⟩ = some (.int .i64 x.h) := by
  rcases h.2 with ⟨rfl, h0⟩ | ⟨g, cap, cur, rfl, hb, hg, hn, hm, hs, ht⟩
  · refine ⟨none, 0, by rw [h0], fun k x hk => ?_⟩
    have := (List.getElem?_eq_some_iff.1 hk).1
    omega
  · refine ⟨_, cap, rfl, fun k x hk => ⟨g, rfl, rfl, ?_⟩⟩
    have hlt := (List.getElem?_eq_some_iff.1 hk).1
    obtain ⟨f0, f1⟩ := flat2_get c k x hk
    have key : ∀ j u, j < c.length * 2 → (flat2 c)[j]? = some u → w.cell? ⟨g, j, none⟩ = some u := fun j u hj hu => by
      rw [← ht, List.getElem?_take_of_lt hj] at hu
      rw [cell_of_row w g j cur 68 (0, 0) hg]
      simpa using hu
    rw [Nat.mul_comm 2 k] at f0 f1
    exact ⟨key _ _ (by omega) f0, key _ _ (by omega) f1⟩
/-- Where the document's table lies. -/
structure RefW (w : World) (S : Nat → Prop) (g : Nat) (v : Value) (st : St) : Prop where
  tb : w.heap[g]? = some (.cells #[v, .int .i64 (st.n : Int)] 50 (0, 0))
  row : w.ownsRow 0 68 2 v st.L.length (flat2 st.L)
  inS : S g ∧ ∀ b, v.ownBlock = some b → S b
def Ref (w : World) (S : Nat → Prop) (g : Nat) (st : St) : Prop := st.Ok ∧ ∃ v, RefW w S g v st
theorem RefW.lts {w : World} {S : Nat → Prop} {g : Nat} {v : Value} {st : St} (h : RefW w S g v st) : g < w.heap.size ∧ ∀ b, v.ownBlock = some b → b < w.heap.size :=
  ⟨(Array.getElem?_eq_some_iff.1 h.tb).1, fun b hb => (h.row.lt b hb).2⟩
theorem RefW.of_blocks {w w' : World} {S S' : Nat → Prop} {g : Nat} {v : Value} {st : St} (h : RefW w S g v st) (hs : ∀ k, k < w.heap.size → S k → S' k)
    (hb : ∀ k, k < w.heap.size → S k → w'.heap[k]? = w.heap[k]?) : RefW w' S' g v st := by
  obtain ⟨l1, l2⟩ := h.lts
  obtain ⟨s1, s2⟩ := h.inS
  exact ⟨(hb g l1 s1).trans h.tb, row_of_block h.row (fun b e => hb b (l2 b e) (s2 b e)), hs _ l1 s1, fun b e => hs _ (l2 b e) (s2 b e)⟩
theorem Ref.below {w w' : World} {S : Nat → Prop} {g : Nat} {st : St} (h : Ref w S g st) (hb : Below w.heap.size w w') : Ref w' S g st := by
  obtain ⟨o, v, h⟩ := h
  exact ⟨o, v, h.of_blocks (fun _ _ hs => hs) (fun k hk _ => hb.block k hk)⟩
theorem Ref.mono {w : World} {S S' : Nat → Prop} {g : Nat} {st : St} (h : Ref w S g st) (hs : ∀ k, k < w.heap.size → S k → S' k) : Ref w S' g st := by
  obtain ⟨o, v, h⟩ := h
  exact ⟨o, v, h.of_blocks hs (fun _ _ _ => rfl)⟩
theorem Ref.only {w w' : World} {S R : Nat → Prop} {g : Nat} {st : St} (h : Ref w S g st) (ho : Only R w w') (hd : ∀ k, S k → ¬ R k) : Ref w' S g st := by
  obtain ⟨o, v, h⟩ := h
  exact ⟨o, v, h.of_blocks (fun _ _ hs => hs) (fun k hk hs => ho.block k hk (hd k hs))⟩
theorem RefW.cells {w : World} {S : Nat → Prop} {g : Nat} {v : Value} {st : St} (h : RefW w S g v st) : w.cell? ⟨g, 0, none⟩ = some v ∧ w.cell? ⟨g, 1, none⟩ = some (.int .i64 (st.n : Int)) ∧ (∀ i, w.frozen? ⟨g, i, none⟩ = false) := by
  refine ⟨?_, ?_, fun i => ?_⟩ <;> simp [World.cell?, World.frozen?, h.tb]
theorem RefW.off {w : World} {S : Nat → Prop} {g : Nat} {v : Value} {st : St} (h : RefW w S g v st) : v.ownBlock ≠ some g := by
  have hB := h.tb
  rcases h.row.2 with ⟨e, _⟩ | ⟨b, cp, cur, e, _, hg, _⟩
  · rw [e]; simp [Value.ownBlock]
  · rw [e]
    simp only [Value.ownBlock, ne_eq, Option.some.injEq]
    exact fun e => by subst e; rw [hB] at hg; simp at hg
theorem ref_new (w : World) : Calls Try.prog 23 #[] w fun e w' => ∃ g, e = .returned (.pointer (some ⟨g, 0, none⟩)) ∧ Ref w' (Btw w.heap.size w'.heap.size) g St.new ∧ Below w.heap.size w w' := by
  have hu50 := Try.underlying50
  go_enter Try.func23, Try.ntmps23
  go_wp2
  go_ret
  refine ⟨w.heap.size, rfl, ⟨St.new_ok, .slice none 0 0, ?_, World.ownsRow_nil _ _ _ _, ⟨Nat.le_refl _, by simp⟩, by simp [Value.ownBlock]⟩, below_alloc (Below.refl _ _) _⟩
  exact Array.getElem?_push_size
set_option maxHeartbeats 4000000 in
set_option maxRecDepth 100000 in
theorem Ref.find {w : World} {S : Nat → Prop} {g : Nat} {st : St} (h : Ref w S g st) (s : ByteArray) :
    Calls Try.prog 25 #[.pointer (some ⟨g, 0, none⟩), .string s] w fun e w' => e = .returned (findV (st.find s)) ∧ Below w.heap.size w w' := by
  obtain ⟨o, v, h⟩ := h
  obtain ⟨c0, c1, cf⟩ := h.cells
  have HCL : Aside0 (st.L.length ≤ 1000) := ⟨Nat.le_trans o.many o.q⟩
  obtain ⟨p, cp, hv, hx⟩ := ownsRow_val2 h.row
  have HX := Aside0.mk hx
  unfold St.find
  generalize st.L = c at HCL hv HX hx ⊢
  subst hv
  clear hx h
  go_enter Try.func25, Try.ntmps25
  go_wp2
  go_loopw [6] (fun i wr => ∃ q : Nat, q ≤ c.length ∧ i = .int .i64 q ∧ Aside0 (∀ j y, j < q → c[j]? = some y → y.s ≠ s) ∧ Aside0 (Below w.heap.size w wr)) (fun i _ => c.length - (intOf i).toNat)
  case atStart => exact ⟨0, by omega, rfl, ⟨fun j y hj => by omega⟩, ⟨by first | exact Below.refl _ _ | exact pw_below_drewN (Below.refl _ _) _⟩⟩
  case round =>
    obtain ⟨q, hq, rfl, HJ, HB⟩ := hrel
    replace c0 := (HB.out.cell (World.block_lt_of_cell? w _ c0)).trans c0
    by_cases hlt : q < c.length
    · have hlt0 : (q : Int) < (c.length : Int) := by omega
      have hq0 : (0 : Int) ≤ (q : Int) := by omega
      obtain ⟨x, hxq⟩ : ∃ x, c[q]? = some x := ⟨_, List.getElem?_eq_getElem hlt⟩
      obtain ⟨b, rfl, _, x0, x1⟩ := HX.out q x hxq
      replace x0 := (HB.out.cell (World.block_lt_of_cell? w _ x0)).trans x0
      replace x1 := (HB.out.cell (World.block_lt_of_cell? w _ x1)).trans x1
      have HXQ := Aside0.mk hxq
      clear hxq
      obtain ⟨xs, xh, xq⟩ := x
      dsimp only at x0 x1
      by_cases hs2 : xs = s
      · subst hs2
        go_wp2
        go_ret2
        have hr := find_hit HXQ.out rfl HJ.out
        exact ⟨by rw [hr]; rfl, by repeat (first | (with_reducible first | exact HB.out | apply below_alloc | apply pw_below_drewN | apply below_drew1) | exact HB.out)⟩
      · have hs3 : (xs.toList == s.toList) = false := beq_eq_false_iff_ne.2 (fun e => hs2 (toList_inj e))
        go_wp2
        have hwp : wrap64 ((q : Int) + 1) = ((q + 1 : Nat) : Int) := wrap_nat_succ q (by have := HCL.out; omega)
        rw [hwp]
        exact ⟨⟨q + 1, hlt, rfl, ⟨fun j y hj hy => by
          rcases Nat.lt_succ_iff_lt_or_eq.1 hj with h | rfl
          · exact HJ.out j y h hy
          · rw [HXQ.out] at hy; cases hy; exact hs2⟩, ⟨by repeat (first | (with_reducible first | exact HB.out | apply below_alloc | apply pw_below_drewN | apply below_drew1) | exact HB.out)⟩⟩, by show c.length - ((q + 1 : Nat) : Int).toNat < c.length - (q : Int).toNat; omega⟩
    · have hlt0 : ¬ (q : Int) < (c.length : Int) := by omega
      go_wp2
      go_ret2
      have hr := find_miss (c := c) (s := s) (fun j y hj => HJ.out j y (by omega))
      exact ⟨by rw [hr]; rfl, HB.out⟩
theorem text_hit {c : List En} {s : Int} {k : Nat} {x : En} (hx : c[k]? = some x) (he : x.h = s) (hn : ∀ j y, j < k → c[j]? = some y → y.h ≠ s) : c.find? (fun x => x.h == s) = some x := by
  rw [List.find?_eq_some_iff_getElem]
  obtain ⟨hk, rfl⟩ := List.getElem?_eq_some_iff.1 hx
  refine ⟨by simpa using he, k, hk, rfl, fun j hj => ?_⟩
  have := hn j c[j] hj (List.getElem?_eq_getElem (by omega))
  simpa using this
theorem text_miss {c : List En} {s : Int} (hn : ∀ j y, j < c.length → c[j]? = some y → y.h ≠ s) : c.find? (fun x => x.h == s) = none := by
  rw [List.find?_eq_none]
  intro x hx
  obtain ⟨j, hj, rfl⟩ := List.mem_iff_getElem.1 hx
  simpa using hn j _ hj (List.getElem?_eq_getElem hj)
set_option maxHeartbeats 4000000 in
set_option maxRecDepth 100000 in
theorem Ref.text {w : World} {S : Nat → Prop} {g : Nat} {st : St} (h : Ref w S g st) (s : Int) :
    Calls Try.prog 26 #[.pointer (some ⟨g, 0, none⟩), .int .i64 s] w fun e w' => e = .returned (.tuple #[.string ((st.text s).getD ByteArray.empty), .bool (st.text s).isSome]) ∧ Below w.heap.size w w' := by
  obtain ⟨o, v, h⟩ := h
  obtain ⟨c0, c1, cf⟩ := h.cells
  have HCL : Aside0 (st.L.length ≤ 1000) := ⟨Nat.le_trans o.many o.q⟩
  obtain ⟨p, cp, hv, hx⟩ := ownsRow_val2 h.row
  have HX := Aside0.mk hx
  unfold St.text
  generalize st.L = c at HCL hv HX hx ⊢
  subst hv
  clear hx h
  go_enter Try.func26, Try.ntmps26
  go_wp2
  go_loopw [6] (fun i wr => ∃ q : Nat, q ≤ c.length ∧ i = .int .i64 q ∧ Aside0 (∀ j y, j < q → c[j]? = some y → y.h ≠ s) ∧ Aside0 (Below w.heap.size w wr)) (fun i _ => c.length - (intOf i).toNat)
  case atStart => exact ⟨0, by omega, rfl, ⟨fun j y hj => by omega⟩, ⟨by first | exact Below.refl _ _ | exact pw_below_drewN (Below.refl _ _) _⟩⟩
  case round =>
    obtain ⟨q, hq, rfl, HJ, HB⟩ := hrel
    replace c0 := (HB.out.cell (World.block_lt_of_cell? w _ c0)).trans c0
    by_cases hlt : q < c.length
    · have hlt0 : (q : Int) < (c.length : Int) := by omega
      have hq0 : (0 : Int) ≤ (q : Int) := by omega
      obtain ⟨x, hxq⟩ : ∃ x, c[q]? = some x := ⟨_, List.getElem?_eq_getElem hlt⟩
      obtain ⟨b, rfl, _, x0, x1⟩ := HX.out q x hxq
      replace x0 := (HB.out.cell (World.block_lt_of_cell? w _ x0)).trans x0
      replace x1 := (HB.out.cell (World.block_lt_of_cell? w _ x1)).trans x1
      have HXQ := Aside0.mk hxq
      clear hxq
      obtain ⟨xs, xh, xq⟩ := x
      dsimp only at x0 x1
      by_cases hs2 : xh = s
      · subst hs2
        go_wp2
        go_ret2
        have hr := text_hit HXQ.out rfl HJ.out
        exact ⟨by rw [hr]; rfl, by repeat (first | (with_reducible first | exact HB.out | apply below_alloc | apply pw_below_drewN | apply below_drew1) | exact HB.out)⟩
      · have hs3 : (xh == s) = false := beq_eq_false_iff_ne.2 hs2
        go_wp2
        have hwp : wrap64 ((q : Int) + 1) = ((q + 1 : Nat) : Int) := wrap_nat_succ q (by have := HCL.out; omega)
        rw [hwp]
        exact ⟨⟨q + 1, hlt, rfl, ⟨fun j y hj hy => by
          rcases Nat.lt_succ_iff_lt_or_eq.1 hj with h | rfl
          · exact HJ.out j y h hy
          · rw [HXQ.out] at hy; cases hy; exact hs2⟩, ⟨by repeat (first | (with_reducible first | exact HB.out | apply below_alloc | apply pw_below_drewN | apply below_drew1) | exact HB.out)⟩⟩, by show c.length - ((q + 1 : Nat) : Int).toNat < c.length - (q : Int).toNat; omega⟩
    · have hlt0 : ¬ (q : Int) < (c.length : Int) := by omega
      go_wp2
      go_ret2
      have hr := text_miss (c := c) (s := s) (fun j y hj => HJ.out j y (by omega))
      exact ⟨by rw [hr]; rfl, HB.out⟩
theorem info68 : (Try.prog.info? 68).map (fun i => (i.zero, i.size, i.bytes)) = some (some (.agg #[.string ByteArray.empty, .int .i64 0]), 2, 24) := by kernel_rfl
theorem RefW.setn {w : World} {S : Nat → Prop} {g : Nat} {v : Value} {st : St} (h : RefW w S g v st) (m : Nat) : RefW (w.setCell ⟨g, 1, none⟩ (.int .i64 (m : Int))) S g v ⟨st.L, m, st.q⟩ ∧ Only S w (w.setCell ⟨g, 1, none⟩ (.int .i64 (m : Int))) := by
  refine ⟨⟨?_, ?_, h.inS⟩, Only.setCell _ h.inS.1 _⟩
  · have e := h.tb
    simp [World.setCell, Array.getElem?_modify, e]
  · exact row_of_block h.row (fun b e => Below.heap_setCell _ _ _ _ (fun e2 => h.off (e.trans (congrArg some e2))))
theorem RefW.setl {w2 w3 : World} {S : Nat → Prop} {g : Nat} {v : Value} {st : St} {L' : List En} {q' : Nat} {row : Option Nat} (h : RefW w2 S g v st)
    (hg3 : w2.grownBy w3 row) (hrow : ∀ k, row = some k → k < w2.heap.size → S k) (hrg : row ≠ some g)
    (v' : Value) (ho3 : w3.ownsRow 0 68 2 v' L'.length (flat2 L')) (hb : ∀ b, v'.ownBlock = some b → S b ∨ w2.heap.size ≤ b) :
    RefW (w3.setCell ⟨g, 0, none⟩ v') (ext S w2 (w3.setCell ⟨g, 0, none⟩ v')) g v' ⟨L', st.n, q'⟩ ∧ Only S w2 (w3.setCell ⟨g, 0, none⟩ v') := by
  have hlt := h.lts.1
  have e3 : w3.heap[g]? = w2.heap[g]? := hg3.block g hlt (fun e => hrg e.symm)
  have hne : ∀ b, v'.ownBlock = some b → g ≠ b := fun b e e2 => by
    subst e2
    rcases ho3.2 with ⟨e4, _⟩ | ⟨b', cp', cur, e4, _, hg, _⟩
    · rw [e4] at e; simp [Value.ownBlock] at e
    · have : b' = g := by rw [e4] at e; simpa [Value.ownBlock] using e
      subst this
      rw [e3, h.tb] at hg
      simp at hg
  refine ⟨⟨?_, ?_, Or.inl h.inS.1, fun b e => ?_⟩, ?_⟩
  · have e := e3.trans h.tb
    simp [World.setCell, Array.getElem?_modify, e]
  · exact row_of_block ho3 (fun b e => Below.heap_setCell _ _ _ _ (fun e5 => hne b e e5.symm))
  · rcases hb b e with h1 | h1
    · exact Or.inl h1
    · exact Or.inr ⟨h1, by have := (ho3.lt b e).2; simpa [World.setCell] using this⟩
  · refine ⟨hg3.os, hg3.tape, hg3.output, by have := hg3.size; simpa [World.setCell] using this, fun k hk hs => ?_⟩
    rw [Below.heap_setCell _ _ _ _ (show k ≠ g from fun e => hs (by rw [e]; exact h.inS.1))]
    exact hg3.block k hk (fun e => hs (hrow k e.symm hk))
end Go.Proofs.Ytonjhnglcffihaa.Tab
