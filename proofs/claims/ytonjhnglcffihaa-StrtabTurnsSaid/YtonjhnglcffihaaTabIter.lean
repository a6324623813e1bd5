/- PROVED: what the iterator over a table's entries hands its loop. Conditions: those each theorem states. -/
import Derived.Test.YtonjhnglcffihaaTabIn
set_option linter.unusedVariables false
set_option linter.unusedSimpArgs false
namespace Go.Proofs.Ytonjhnglcffihaa.Tab
open Go Go.RowKit Go.Shelf Go.Proofs.Ytonjhnglcffihaa.Print Go.Proofs.YtonjhnglcffihaaW.PrintWords Go.Proofs.YtonjhnglcffihaaW.PrintLast Go.Proofs.YtonjhnglcffihaaW.PrintMore
attribute [local go_sem] Oper.semAt_some

def encE (x : En) : Value := .agg #[.string x.s, .int .i64 x.h, .int .i64 x.q]
def norm (x : En) : En := if x.s.size ≤ maxLen then x else ⟨ByteArray.empty, 0, 0⟩
theorem norm_len (x : En) : (norm x).s.size ≤ maxLen := by
  unfold norm
  split
  · assumption
  · decide
theorem norm_id {x : En} (h : x.s.size ≤ maxLen) : norm x = x := if_pos h
def allE (st : St) (k : Nat) : List En := (List.range k).flatMap st.chain
theorem allE_succ (st : St) (k : Nat) : allE st (k + 1) = allE st k ++ st.chain k := by simp [allE, List.range_succ]
theorem allE_le (st : St) {k m : Nat} (h : k ≤ m) : (allE st k).length ≤ (allE st m).length := by
  induction m with
  | zero => obtain rfl : k = 0 := by omega
            exact Nat.le_refl _
  | succ m ih =>
    rcases Nat.lt_or_ge m k with h1 | h1
    · obtain rfl : k = m + 1 := by omega
      exact Nat.le_refl _
    · rw [allE_succ, List.length_append]; exact Nat.le_trans (ih h1) (Nat.le_add_right _ _)
theorem allE_lt (st : St) {k m j : Nat} (h : k < m) (hj : j < (st.chain k).length) : (allE st k ++ (st.chain k).take j).length < (allE st m).length := by
  refine Nat.lt_of_lt_of_le ?_ (allE_le st h)
  rw [allE_succ, List.length_append, List.length_append, List.length_take]
  omega
theorem chain_len {st : St} (hl : ∀ x ∈ st.L, x.s.size ≤ maxLen) {k : Nat} {x : En} (h : x ∈ st.chain k) : x.s.size ≤ maxLen := hl x (List.mem_filter.1 h).1

set_option maxRecDepth 100000 in
set_option maxHeartbeats 4000000 in
theorem all1_in (n : Nat) (hn : 1 ≤ n) (l Bt n₀ : Nat) {W : World} {S : Nat → Prop} {B A bm cap : Nat} {vs : Nat → Value} {D : DataW Unit} {st : St} (hT : TabW W S B A bm vs cap D st) (hn5 : st.n ≤ 1048576) (hl0 : ∀ x ∈ st.L, x.s.size ≤ maxLen) (hlen : st.L.length ≤ 1000)
    (hA : A < n₀) (hv : ∀ i, i < st.n → ∀ g, (vs i).ownBlock = some g → g < n₀) (hBt : W.cell? ⟨Bt, 0, none⟩ = some (.pointer (some ⟨B, 0, none⟩)))
    (J Jx : List En → World → Prop) (hJa : ∀ pre W1 o, J pre W1 → J pre (W1.alloc o))
    (hY : ∀ pre x W1, J pre W1 → pre.length < (allE st st.n).length → YieldAt Fence.wide (n - 1) Try.prog l #[encE (norm x)] W1 fun e W' =>
      (e = .returned (.bool true) ∧ J (pre ++ [x]) W' ∧ Below n₀ W1 W') ∨ (e = .returned (.bool false) ∧ Jx (pre ++ [x]) W'))
    (h0 : J [] W) (hn0 : n₀ ≤ W.heap.size) :
    CallsIn Fence.wide n Try.prog 38 #[.func (.yield l) #[] #[], .pointer (some ⟨Bt, 0, none⟩)] W fun e W' => (∃ v, e = .returned v) ∧
      ((∃ ys, ys = allE st st.n ∧ J ys W') ∨ (∃ pre, True ∧ Jx pre W')) := by
  obtain ⟨c0, c1, c2, cf⟩ := hT.cells
  refine callsIn_of_wp Try.func38 rfl trivial ?_ rfl
  simp only [Try.ntmps38, List.size_toArray, List.length_cons, List.length_nil, Nat.reduceAdd, Nat.reduceSub, Array.replicate_succ, Array.replicate_zero, List.push_toArray, List.append_toArray, List.nil_append, List.cons_append]
  gi_wp2
  gi_loopw [12] (fun i wr => ∃ k : Nat, k ≤ st.n ∧ i = .int .i64 k ∧ J (allE st k) wr ∧ Below n₀ W wr) (fun i _ => st.n - (intOf i).toNat)
  case atStart => exact ⟨0, Nat.zero_le _, rfl, h0, Below.refl _ _⟩
  case round =>
    obtain ⟨k, hk, rfl, hJs, hnx⟩ := hrel
    by_cases hlt : k < st.n
    · have hlt0 : (k : Int) < (st.n : Int) := by omega
      have hk0 : (0 : Int) ≤ (k : Int) := by omega
      have hcell := (hnx.cell (p := ⟨A, k, none⟩) hA).trans (hT.ch.cell hlt)
      obtain ⟨p, cp, hvk, hx⟩ := ownsRow_val (hT.row k hlt)
      rw [hvk] at hcell
      have HX := Aside0.mk hx
      clear hx
      have HL : Aside0 ((st.chain k).length ≤ 1000) := ⟨Nat.le_trans (List.length_filter_le _ _) hlen⟩
      gi_wp2
      gi_loopw [18] (fun i wr => ∃ j : Nat, j ≤ (st.chain k).length ∧ i = .int .i64 j ∧ J (allE st k ++ (st.chain k).take j) wr ∧ Below n₀ W wr) (fun i _ => (st.chain k).length - (intOf i).toNat)
      case atStart => exact ⟨0, Nat.zero_le _, rfl, by simpa using hJs, hnx⟩
      case round =>
        clear hJs hnx hcell
        obtain ⟨j, hj, rfl, hJs, hnx⟩ := hrel
        by_cases hlt2 : j < (st.chain k).length
        · have hlt3 : (j : Int) < ((st.chain k).length : Int) := by omega
          have hj0 : (0 : Int) ≤ (j : Int) := by omega
          obtain ⟨x, hxq⟩ : ∃ x, (st.chain k)[j]? = some x := ⟨_, List.getElem?_eq_getElem hlt2⟩
          obtain ⟨g, rfl, hgo, x0, x1, x2⟩ := HX.out j x hxq
          have hg := hv k hlt g hgo
          replace x0 := (hnx.cell (p := ⟨g, j * 3, none⟩) hg).trans x0
          replace x1 := (hnx.cell (p := ⟨g, j * 3 + 1, none⟩) hg).trans x1
          replace x2 := (hnx.cell (p := ⟨g, j * 3 + 2, none⟩) hg).trans x2
          have hnm : norm x = x := norm_id (chain_len hl0 (List.mem_of_getElem? hxq))
          have hyy := hY (allE st k ++ (st.chain k).take j) x (wr.alloc (.cells #[.string x.s, .int .i64 x.h, .int .i64 x.q] 65)) (hJa _ _ _ hJs) (allE_lt st hlt hlt2)
          rw [hnm] at hyy
          obtain ⟨fn, tmps, assign, body, hy, hR⟩ := hyy
          unfold encE at hy
          have HXQ := Aside0.mk hxq
          clear hxq hnm
          obtain ⟨xs, xh, xq⟩ := x
          dsimp only at x0 x1 x2 hy hR
          gi_wp2
          refine hR.mono ?_
          rintro e W3 (⟨rfl, hJ3, hk3⟩ | ⟨rfl, hJx3⟩)
          · have hsn : (allE st k ++ (st.chain k).take j) ++ [(⟨xs, xh, xq⟩ : En)] = allE st k ++ (st.chain k).take (j + 1) := by
              rw [List.append_assoc]; congr 1
              obtain ⟨hl, e⟩ := List.getElem?_eq_some_iff.1 HXQ.out
              rw [List.take_succ_eq_append_getElem hl, e]
            rw [hsn] at hJ3
            have hz := Aside0.mk (show Below n₀ W W3 from hnx.trans ((Below.refl n₀ wr).alloc (Nat.le_trans hn0 hnx.size) _ |>.trans hk3))
            gi_wp2
            rw [show wrap64 ((j : Int) + 1) = ((j + 1 : Nat) : Int) from by have := HL.out; unfold wrap64; omega]
            exact ⟨⟨j + 1, hlt2, rfl, hJ3, hz.out⟩, by show (st.chain k).length - ((j + 1 : Nat) : Int).toNat < (st.chain k).length - (j : Int).toNat; omega⟩
          · gi_wp2
            refine bodyPost_ret (results_none rfl _ _ _) rfl ?_
            exact ⟨⟨_, rfl⟩, .inr ⟨_, trivial, hJx3⟩⟩
        · have hlt3 : ¬ (j : Int) < ((st.chain k).length : Int) := by omega
          obtain rfl : j = (st.chain k).length := by omega
          rw [List.take_length, ← allE_succ] at hJs
          gi_wp2
          exact ⟨⟨k + 1, hlt, rfl, hJs, hnx⟩, by show st.n - ((k + 1 : Nat) : Int).toNat < st.n - (k : Int).toNat; omega⟩
    · have hlt0 : ¬ (k : Int) < (st.n : Int) := by omega
      obtain rfl : k = st.n := by omega
      gi_wp2
      go_end0
      first | exact ⟨⟨_, rfl⟩, .inl hJs⟩ | exact ⟨⟨_, rfl⟩, .inl ⟨_, rfl, hJs⟩⟩ | exact ⟨_, .inl hJs⟩
end Go.Proofs.Ytonjhnglcffihaa.Tab
