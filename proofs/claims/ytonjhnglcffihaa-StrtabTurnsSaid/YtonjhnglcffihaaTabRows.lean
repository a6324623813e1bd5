/- PROVED: rows of chains under way, and what the insertion of one entry does to them. Conditions: those each theorem states. -/
import Derived.Test.YtonjhnglcffihaaTabIter
set_option linter.unusedVariables false
set_option linter.unusedSimpArgs false
namespace Go.Proofs.Ytonjhnglcffihaa.Tab
open Go Go.RowKit Go.Shelf Go.Proofs.Ytonjhnglcffihaa.Print Go.Proofs.YtonjhnglcffihaaW.PrintWords Go.Proofs.YtonjhnglcffihaaW.PrintLast Go.Proofs.YtonjhnglcffihaaW.PrintMore

structure RowsW (N Fr m : Nat) (W : World) (L : List En) (vs : Nat → Value) (fch : Nat → List En) : Prop where
  ch : W.rowIs Fr 63 m vs
  row : ∀ i, i < m → W.ownsRow N 65 3 (vs i) (fch i).length (flat (fch i))
  up : ∀ i, i < m → (fch i).Pairwise fun a b => a.q ≤ b.q
  perm : ∀ i, i < m → (fch i).Perm (L.filter fun x => bk m x.s == i)
  apart : ∀ i j, i < m → j < m → i ≠ j → ∀ g, (vs i).ownBlock = some g → (vs j).ownBlock ≠ some g
def Rows (N Fr m : Nat) (W : World) (L : List En) : Prop := ∃ vs fch, RowsW N Fr m W L vs fch

theorem RowsW.of_blocks {N Fr m : Nat} {W W' : World} {L : List En} {vs : Nat → Value} {fch : Nat → List En} (h : RowsW N Fr m W L vs fch) (hb : ∀ (k : Nat) (cs : Array Value) (t : TypeId), W.heap[k]? = some (Obj.cells cs t (0, 0)) → W'.heap[k]? = W.heap[k]?) : RowsW N Fr m W' L vs fch := by
  refine ⟨?_, fun i hi => ?_, h.up, h.perm, h.apart⟩
  · obtain ⟨c, hc, r⟩ := h.ch
    exact ⟨c, (hb _ _ _ hc).trans hc, r⟩
  · have hr := h.row i hi
    refine ⟨hr.1, ?_⟩
    rcases hr.2 with h2 | ⟨g, cap', cur, e, h3, h4, h5⟩
    · exact .inl h2
    · exact .inr ⟨g, cap', cur, e, h3, (hb _ _ _ h4).trans h4, h5⟩
theorem rows_own {N Fr m B : Nat} (f : List En → List En) : OwnFrom B (fun (pre : List En) W => Rows N Fr m W (f pre)) := by
  intro s W W' row hs hg hr
  obtain ⟨vs, fch, h⟩ := hs
  refine ⟨vs, fch, h.of_blocks (fun k cs t hk => hg.block k (Array.getElem?_eq_some_iff.1 hk).1 (fun e => ?_))⟩
  obtain ⟨_, o, ho, hc⟩ := hr k e.symm
  rw [hk] at ho
  cases ho
  cases hc
theorem Rows.alloc {N Fr m : Nat} {W : World} {L : List En} (h : Rows N Fr m W L) (o : Obj) : Rows N Fr m (W.alloc o) L := by
  obtain ⟨vs, fch, h⟩ := h
  exact ⟨vs, fch, h.of_blocks (fun k cs t hk => Below.heap_alloc W o k (Array.getElem?_eq_some_iff.1 hk).1)⟩
theorem flat_set : ∀ (c : List En) (i : Nat) (a : En), flat (c.set i a) = (((flat c).set (i * 3) (.string a.s)).set (i * 3 + 1) (.int .i64 a.h)).set (i * 3 + 2) (.int .i64 a.q)
  | [], i, a => by simp [flat]
  | x :: c, 0, a => by simp [flat, En.vals]
  | x :: c, i + 1, a => by
    have := flat_set c i a
    rw [show (i + 1) * 3 = i * 3 + 3 by omega, List.set_cons_succ]
    simp only [flat, List.flatMap_cons] at this ⊢
    rw [this]
    simp [En.vals, show i * 3 + 3 + 1 = i * 3 + 1 + 3 by omega, show i * 3 + 3 + 2 = i * 3 + 2 + 3 by omega]
theorem row_set {w : World} {base e size n cap g j : Nat} {xs : List Value} {v : Value} (h : w.ownsRow base e size (.slice (some ⟨g, 0, none⟩) n cap) n xs) (hj : j < n * size) : (w.setCell ⟨g, j, none⟩ v).ownsRow base e size (.slice (some ⟨g, 0, none⟩) n cap) n (xs.set j v) := by
  rcases h.2 with ⟨e0, _⟩ | ⟨g', cap', cur, e0, hb, hg, h1, h2, h3, h4⟩
  · simp at e0
  · simp only [Value.slice.injEq, Option.some.injEq, Addr.mk.injEq] at e0
    obtain ⟨⟨rfl, _⟩, _, rfl⟩ := e0
    refine ⟨by rw [List.length_set]; exact h.1, .inr ⟨g, cap, cur.setIfInBounds j v, rfl, hb, by simp [World.setCell, Array.getElem?_modify, hg], h1, h2, by simpa using h3, ?_⟩⟩
    rw [Array.toList_setIfInBounds, ← h4, List.take_set]
/-- The row of a list in which an entry takes the place of another. -/
theorem row_put {w : World} {base e cap g i : Nat} {c : List En} {a : En} (h : w.ownsRow base e 3 (.slice (some ⟨g, 0, none⟩) c.length cap) c.length (flat c)) (hi : i < c.length) :
    (((w.setCell ⟨g, i * 3, none⟩ (.string a.s)).setCell ⟨g, i * 3 + 1, none⟩ (.int .i64 a.h)).setCell ⟨g, i * 3 + 2, none⟩ (.int .i64 a.q)).ownsRow base e 3 (.slice (some ⟨g, 0, none⟩) c.length cap) c.length (flat (c.set i a)) := by
  rw [flat_set]
  exact row_set (row_set (row_set h (by omega)) (by omega)) (by omega)
/-- The list behind i rounds of the insertion: C with x at place i. -/
def insAt (C : List En) (x : En) (i : Nat) : List En := C.take i ++ x :: C.drop i
theorem insAt_length (C : List En) (x : En) {i : Nat} (hi : i ≤ C.length) : (insAt C x i).length = C.length + 1 := by
  unfold insAt; rw [List.length_append, List.length_take, List.length_cons, List.length_drop]; omega
theorem insAt_get (C : List En) (x : En) {i : Nat} (hi : i ≤ C.length) : (insAt C x i)[i]? = some x := by
  unfold insAt
  rw [List.getElem?_append_right (by rw [List.length_take]; omega), List.length_take, Nat.min_eq_left hi]
  simp
theorem insAt_left (C : List En) (x : En) {i j : Nat} (hi : i ≤ C.length) (hj : j < i) : (insAt C x i)[j]? = C[j]? := by
  unfold insAt
  rw [List.getElem?_append_left (by rw [List.length_take]; omega), List.getElem?_take_of_lt hj]
theorem insAt_step (C : List En) (x y : En) {p : Nat} (hp : p < C.length) (hy : C[p]? = some y) : ((insAt C x (p + 1)).set p x).set (p + 1) y = insAt C x p := by
  apply List.ext_getElem?
  intro j
  have hl := (List.getElem?_eq_some_iff.1 hy)
  unfold insAt
  rw [List.getElem?_set, List.getElem?_set, List.length_set, List.length_append, List.length_take, List.length_cons, List.length_drop]
  by_cases h1 : p + 1 = j
  · subst h1
    rw [if_pos rfl, if_pos (by omega), List.getElem?_append_right (by rw [List.length_take]; omega), List.length_take, Nat.min_eq_left (by omega), show p + 1 - p = 0 + 1 by omega, List.getElem?_cons_succ, List.getElem?_drop]
    simp [hy]
  · rw [if_neg h1]
    by_cases h2 : p = j
    · subst h2
      rw [if_pos rfl, if_pos (by omega), List.getElem?_append_right (by rw [List.length_take]; omega), List.length_take, Nat.min_eq_left (by omega)]
      simp
    · rw [if_neg h2]
      rcases Nat.lt_or_ge j p with h3 | h3
      · rw [List.getElem?_append_left (by rw [List.length_take]; omega), List.getElem?_append_left (by rw [List.length_take]; omega), List.getElem?_take_of_lt (by omega), List.getElem?_take_of_lt (by omega)]
      · rw [List.getElem?_append_right (by rw [List.length_take]; omega), List.getElem?_append_right (by rw [List.length_take]; omega), List.length_take, List.length_take, Nat.min_eq_left (by omega), Nat.min_eq_left (by omega)]
        obtain ⟨d, rfl⟩ : ∃ d, j = p + 1 + (d + 1) := ⟨j - p - 2, by omega⟩
        rw [show p + 1 + (d + 1) - (p + 1) = d + 1 by omega, show p + 1 + (d + 1) - p = (d + 1) + 1 by omega, List.getElem?_cons_succ, List.getElem?_cons_succ, List.getElem?_drop, List.getElem?_drop]
        congr 1; omega
theorem insAt_perm (C : List En) (x : En) (i : Nat) : (insAt C x i).Perm (C ++ [x]) := by
  unfold insAt
  refine List.perm_middle.trans ?_
  rw [List.take_append_drop]
  exact (List.perm_append_singleton x C).symm
theorem insAt_up {C : List En} {x : En} {i : Nat} (hC : C.Pairwise fun a b => a.q ≤ b.q) (hd : ∀ y ∈ C.drop i, x.q < y.q) (ht : ∀ y ∈ C.take i, y.q ≤ x.q) : (insAt C x i).Pairwise fun a b => a.q ≤ b.q := by
  unfold insAt
  have hC' : (C.take i ++ C.drop i).Pairwise fun a b => a.q ≤ b.q := by rw [List.take_append_drop]; exact hC
  obtain ⟨h1, h2, h3⟩ := List.pairwise_append.1 hC'
  refine List.pairwise_append.2 ⟨h1, List.pairwise_cons.2 ⟨fun y hy => Int.le_of_lt (hd y hy), h2⟩, fun a ha b hb => ?_⟩
  rcases List.mem_cons.1 hb with rfl | hb
  · exact ht a ha
  · exact h3 a ha b hb
theorem take_le {C : List En} {i : Nat} {x : En} (hile : i ≤ C.length) (hC : C.Pairwise fun a b => a.q ≤ b.q) (hi : ∀ p y, i = p + 1 → C[p]? = some y → y.q ≤ x.q) : ∀ y ∈ C.take i, y.q ≤ x.q := by
  intro y hy
  obtain ⟨j, hj, rfl⟩ := List.mem_iff_getElem.1 hy
  rw [List.length_take] at hj
  rw [List.getElem_take]
  obtain ⟨p, rfl⟩ : ∃ p, i = p + 1 := ⟨i - 1, by omega⟩
  have hpl : p < C.length := by omega
  have h0 := hi p C[p] rfl (List.getElem?_eq_getElem hpl)
  rcases Nat.lt_or_ge j p with h | h
  · have := List.pairwise_iff_getElem.1 hC j p (by omega) (by omega) h
    exact Int.le_trans this h0
  · obtain rfl : j = p := by omega
    exact h0
/-- The rows behind a round. -/
theorem RowsW.put {N Fr m b g cp : Nat} {W W5 : World} {L : List En} {vs : Nat → Value} {fch : Nat → List En} {x : En} {c' : List En} {v' : Value} (h : RowsW N Fr m W L vs fch) (hb : b < m) (hbx : bk m x.s = b)
    (hv : v' = .slice (some ⟨g, 0, none⟩) c'.length cp) (hg : (vs b).ownBlock = some g ∨ W.heap.size ≤ g) (hup : c'.Pairwise fun a b => a.q ≤ b.q) (hp : c'.Perm (fch b ++ [x]))
    (hrow : W5.ownsRow N 65 3 v' c'.length (flat c')) (hch : W5.rowIs Fr 63 m (fun j => if j = b then v' else vs j))
    (ho : ∀ k, k < W.heap.size → k ≠ Fr → (vs b).ownBlock ≠ some k → W5.heap[k]? = W.heap[k]?) : Rows N Fr m W5 (L ++ [x]) := by
  have lt : ∀ i, i < m → ∀ k, (vs i).ownBlock = some k → k < W.heap.size ∧ k ≠ Fr := fun i hi k hk => by
    refine ⟨((h.row i hi).lt k hk).2, fun e => ?_⟩
    subst e
    obtain ⟨c, hc, _⟩ := h.ch
    rcases (h.row i hi).2 with ⟨e, _⟩ | ⟨g', cap', cur, e, _, h4, _⟩
    · rw [e] at hk; simp [Value.ownBlock] at hk
    · rw [e] at hk
      obtain rfl : g' = k := by simpa [Value.ownBlock] using hk
      rw [hc] at h4; simp at h4
  have hvb : v'.ownBlock = some g := by rw [hv]; rfl
  refine ⟨fun j => if j = b then v' else vs j, fun j => if j = b then c' else fch j, hch, fun i hi => ?_, fun i hi => ?_, fun i hi => ?_, fun i j hi hj hne k hk => ?_⟩
  · try dsimp only
    by_cases e : i = b
    · rw [if_pos e, if_pos e]; exact hrow
    · rw [if_neg e, if_neg e]
      exact row_of_block (h.row i hi) (fun k hk => ho k (lt i hi k hk).1 (lt i hi k hk).2 (h.apart i b hi hb e k hk))
  · try dsimp only
    by_cases e : i = b
    · rw [if_pos e]; exact hup
    · rw [if_neg e]; exact h.up i hi
  · try dsimp only
    rw [List.filter_append]
    by_cases e : i = b
    · rw [if_pos e, e]
      rw [List.filter_cons_of_pos (by simp [hbx]), List.filter_nil]
      exact hp.trans ((h.perm b hb).append_right _)
    · rw [if_neg e, List.filter_cons_of_neg (by simp [hbx]; exact fun e' => e e'.symm), List.filter_nil, List.append_nil]
      exact h.perm i hi
  · try dsimp only at hk ⊢
    by_cases hib : i = b
    · rw [if_pos hib, hvb] at hk
      rw [if_neg (fun e => hne (hib.trans e.symm))]
      obtain rfl : g = k := by simpa using hk
      rcases hg with e | e
      · exact h.apart _ _ hb hj (fun e' => hne (hib.trans e')) _ e
      · intro h'; have := (lt j hj _ h').1; omega
    · rw [if_neg hib] at hk
      by_cases hjb : j = b
      · rw [if_pos hjb, hvb]
        intro h'
        obtain rfl : g = k := by simpa using h'
        rcases hg with e | e
        · exact h.apart _ _ hb hi (fun e' => hib e'.symm) _ e hk
        · have := (lt i hi _ hk).1; omega
      · rw [if_neg hjb]
        exact h.apart i j hi hj hne k hk
theorem round_far {N m g cp n : Nat} {W w1 w3 wr : World} {L : List En} {vs : Nat → Value} {fch : Nat → List En} {b : Nat} {o : Obj} {vN vS : Value} {xs : List Value} (HR : RowsW N (N + 1) m W L vs fch) (hbl : b < m)
    (bN : Boxed W N 3 vN) (bS : Boxed W (N + 1 + 1) 58 vS) (HK1 : ∀ k, k < W.heap.size → w1.heap[k]? = W.heap[k]?) (HZ1 : W.heap.size ≤ w1.heap.size)
    (HG3 : (w1.drew.alloc o).grownBy w3 (vs b).ownBlock) (HT3 : (vs b).ownBlock = some g ∨ g = (w1.drew.alloc o).heap.size) (HG : w3.grownBy wr (some g)) :
    ∀ k, (k = N ∨ k = N + 1 ∨ k = N + 1 + 1) → k ≠ g ∧ (vs b).ownBlock ≠ some k ∧ k < W.heap.size ∧ wr.heap[k]? = W.heap[k]? := by
  intro k hk
  have lk : k < W.heap.size := by
    rcases hk with rfl | rfl | rfl
    · exact bN.lt
    · exact HR.ch.lt
    · exact bS.lt
  have hne : (vs b).ownBlock ≠ some k := by
    rcases (HR.row b hbl).2 with ⟨e, _⟩ | ⟨g', cap', cur, e, _, h4, _⟩
    · rw [e]; simp [Value.ownBlock]
    · rw [e]
      intro e2
      obtain rfl : g' = k := by simpa [Value.ownBlock] using e2
      rcases hk with rfl | rfl | rfl
      · rw [show W.heap[g']? = _ from bN] at h4; simp at h4
      · obtain ⟨c, hc, _⟩ := HR.ch
        rw [hc] at h4; simp at h4
      · rw [show W.heap[N + 1 + 1]? = _ from bS] at h4; simp at h4
  have hz : (w1.drew.alloc o).heap.size = w1.heap.size + 1 := by show (w1.alloc o).heap.size = _; simp
  have hkg : k ≠ g := by
    rcases HT3 with e | e
    · rintro rfl; exact hne e
    · omega
  have z3 := HG3.size
  exact ⟨hkg, hne, lk, (HG.block k (by omega) (by simpa using hkg)).trans ((far3 HG3 hne (by omega)).trans (HK1 k lk))⟩
theorem round_end {N m g cp p : Nat} {W w1 w3 wr : World} {L : List En} {vs : Nat → Value} {fch : Nat → List En} {x : En} {o : Obj} {vN vS : Value} {xs : List Value} (HR : RowsW N (N + 1) m W L vs fch) (hbl : bk m x.s < m) (hN : N ≤ W.heap.size)
    (bN : Boxed W N 3 vN) (bS : Boxed W (N + 1 + 1) 58 vS) (HK1 : ∀ k, k < W.heap.size → w1.heap[k]? = W.heap[k]?) (HZ1 : W.heap.size ≤ w1.heap.size) (HB1 : Below N W w1) (HF1 : KeepsOthers W w1)
    (HG3 : (w1.drew.alloc o).grownBy w3 (vs (bk m x.s)).ownBlock) (HT3 : (vs (bk m x.s)).ownBlock = some g ∨ g = (w1.drew.alloc o).heap.size) (HO3 : w3.ownsRow N 65 3 (.slice (some ⟨g, 0, none⟩) ((fch (bk m x.s)).length + 1) cp) ((fch (bk m x.s)).length + 1) xs)
    (HG : w3.grownBy wr (some g)) (hp : p ≤ (fch (bk m x.s)).length) (HO : wr.ownsRow N 65 3 (.slice (some ⟨g, 0, none⟩) ((fch (bk m x.s)).length + 1) cp) ((fch (bk m x.s)).length + 1) (flat (insAt (fch (bk m x.s)) x p)))
    (HD : ∀ y ∈ (fch (bk m x.s)).drop p, x.q < y.q) (HT : ∀ y ∈ (fch (bk m x.s)).take p, y.q ≤ x.q) :
    KeepsOthers W (wr.drew.setCell ⟨N + 1, bk m x.s, none⟩ (.slice (some ⟨g, 0, none⟩) ((fch (bk m x.s)).length + 1) cp)) ∧ Below N W (wr.drew.setCell ⟨N + 1, bk m x.s, none⟩ (.slice (some ⟨g, 0, none⟩) ((fch (bk m x.s)).length + 1) cp)) ∧
    (Boxed (wr.drew.setCell ⟨N + 1, bk m x.s, none⟩ (.slice (some ⟨g, 0, none⟩) ((fch (bk m x.s)).length + 1) cp)) N 3 vN ∧ Boxed (wr.drew.setCell ⟨N + 1, bk m x.s, none⟩ (.slice (some ⟨g, 0, none⟩) ((fch (bk m x.s)).length + 1) cp)) (N + 1 + 1) 58 vS) ∧
    Rows N (N + 1) m (wr.drew.setCell ⟨N + 1, bk m x.s, none⟩ (.slice (some ⟨g, 0, none⟩) ((fch (bk m x.s)).length + 1) cp)) (L ++ [x]) := by
  have far := round_far (cp := cp) (n := 0) (xs := []) HR hbl bN bS HK1 HZ1 HG3 HT3 HG
  have hz : (w1.drew.alloc o).heap.size = w1.heap.size + 1 := by show (w1.alloc o).heap.size = _; simp
  have z3 := HG3.size
  have zr := HG.size
  have lg := HO3.lt g rfl
  have lgr := HO.lt g rfl
  have hA : KeepsOthers w1 (w1.drew.alloc o) := (KeepsOthers.drew w1).trans (KeepsOthers.alloc w1.drew o)
  have h3 : KeepsOthers (w1.drew.alloc o) w3 := KeepsOthers.of_grownBy HG3 (fun j o' e1 e2 => by
    rcases (HR.row _ hbl).2 with ⟨e, _⟩ | ⟨g', cap', cur, e, _, h4, _⟩
    · rw [e] at e1; simp [Value.ownBlock] at e1
    · rw [e] at e1
      obtain rfl : g' = j := by simpa [Value.ownBlock] using e1
      have hl := (Array.getElem?_eq_some_iff.1 h4).1
      rw [Below.heap_alloc w1.drew o g' (by show g' < w1.heap.size; omega)] at e2
      have h5 : w1.heap[g']? = some o' := e2
      rw [HK1 g' hl, h4] at h5
      cases h5; rfl)
  have h4 : KeepsOthers w3 wr := KeepsOthers.of_grownBy HG (fun j o' e1 e2 => by
    obtain rfl : g = j := by simpa using e1
    rcases HO3.2 with ⟨e, _⟩ | ⟨g', cap', cur, e, _, h4, _⟩
    · simp at e
    · simp only [Value.slice.injEq, Option.some.injEq, Addr.mk.injEq] at e
      rw [← e.1.1] at h4
      rw [h4] at e2; cases e2; rfl)
  have hb3 : Below N (w1.drew.alloc o) w3 := (Below.refl N _).grown HG3 (by omega) (fun k e => ((HR.row _ hbl).lt k e).1)
  have hb4 : Below N w3 wr := (Below.refl N _).grown HG (by omega) (fun k e => by cases e; exact lg.1)
  have hb : Below N W wr := HB1.trans ((((Below.refl N w1).drew).alloc (by show N ≤ w1.heap.size; omega) o).trans (hb3.trans hb4))
  have s5 : ∀ k, k ≠ N + 1 → (wr.drew.setCell ⟨N + 1, bk m x.s, none⟩ (.slice (some ⟨g, 0, none⟩) ((fch (bk m x.s)).length + 1) cp)).heap[k]? = wr.heap[k]? := fun k hk => Below.heap_setCell wr.drew _ _ k hk
  refine ⟨HF1.trans (hA.trans (h3.trans (h4.trans ((KeepsOthers.drew wr).trans (KeepsOthers.setCell _ _ _))))), (hb.drew).setCell (p := ⟨N + 1, bk m x.s, none⟩) (by show N ≤ N + 1; omega) _, ⟨?_, ?_⟩, ?_⟩
  · exact (s5 N (by omega)).trans ((far N (Or.inl rfl)).2.2.2.trans bN)
  · exact (s5 _ (by omega)).trans ((far _ (Or.inr (Or.inr rfl))).2.2.2.trans bS)
  · have hl := insAt_length (fch (bk m x.s)) x hp
    refine HR.put (g := g) (cp := cp) (c' := insAt (fch (bk m x.s)) x p) hbl rfl (by rw [hl]) ?_ (insAt_up (HR.up _ hbl) HD HT) (insAt_perm _ _ _) ?_ ?_ (fun k hk h1 h2 => ?_)
    · rcases HT3 with e | e
      · exact Or.inl e
      · exact Or.inr (by omega)
    · rw [hl]
      refine row_of_block HO (fun k hk => ?_)
      obtain rfl : g = k := by simpa [Value.ownBlock] using hk
      exact s5 g (fun e => (far _ (Or.inr (Or.inl rfl))).1 e.symm)
    · have r0 : wr.rowIs (N + 1) 63 m vs := HR.ch.of_block (far _ (Or.inr (Or.inl rfl))).2.2.2
      exact (World.rowIs.drew r0).set _ _
    · rcases HT3 with e | e
      · exact (s5 k h1).trans ((HG.block k (by omega) (fun e' => h2 (by rw [e]; exact e'.symm))).trans ((far3 HG3 h2 (by omega)).trans (HK1 k hk)))
      · exact (s5 k h1).trans ((HG.block k (by omega) (fun e' => by have : k = g := by simpa using e'
                                                                    omega)).trans ((far3 HG3 h2 (by omega)).trans (HK1 k hk)))
end Go.Proofs.Ytonjhnglcffihaa.Tab
