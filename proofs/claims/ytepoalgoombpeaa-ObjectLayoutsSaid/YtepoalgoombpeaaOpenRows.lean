/- PROVED: what a head, a value, an object given to a law looks like in memory: its cells, and the lists that its slices read as. Conditions: none. (The session's own.) -/
import Derived.Test.YtepoalgoombpeaaPrintx0
import Derived.Deep.Slices
import Derived.Deep.Fields
import Derived.Deep.Strs
import Derived.ChangeSame
import Derived.Lib.SmallJoins
set_option linter.unusedVariables false
set_option linter.unusedSimpArgs false
namespace Go.Proofs.Ytepoalgoombpeaa.OpenRows
open Go.ChangeShapes Go.WideShapes Go.Deep Go.RowKit Go.Proofs.Ytepoalgoombpeaa.Print Go.Proofs.YtepoalgoombpeaaW.PrintWords
section
variable {H : Type} {enc : TypeId × Value → H} {w : World} {base : Nat} {spare : Nat → Bool} {held : Bool}
theorem one {n : Nat} {c : Value} {y : DataW H × List MemPlace} {t : TypeId} (ht : Try.prog.underlying t = some (.int .i64)) (h : DataW.trod enc Try.prog w base spare held n t [c] = some y) : ∃ a, c = .int .i64 a ∧ (Lit.int .i64 a).wf = true := by
  obtain ⟨a, e, _, hw⟩ := DataW.trod_int ht h
  simp only [List.cons.injEq, and_true] at e
  exact ⟨a, e, hw⟩
theorem open_head {fuel : Nat} {cs : List Value} {y : DataW H × List MemPlace} (h : DataW.trod enc Try.prog w base spare held fuel 23 cs = some y) :
    ∃ a0 a1 a2 a3 a4 a5 a6 a7 : Int, cs = [.int .i64 a0, .int .i64 a1, .int .i64 a2, .int .i64 a3, .int .i64 a4, .int .i64 a5, .int .i64 a6, .int .i64 a7] ∧ ∀ a ∈ [a0, a1, a2, a3, a4, a5, a6, a7], (Lit.int .i64 a).wf = true := by
  obtain ⟨xs, n, _, _, hl, hlen, hf⟩ := DataW.trod_struct Try.underlying23 h
  have hC : Try.prog.cellsOf 23 = 8 := by kernel_rfl
  have hC3 : Try.prog.cellsOf 3 = 1 := by kernel_rfl
  rw [hC] at hl
  match cs, hl with
  | [c0, c1, c2, c3, c4, c5, c6, c7], _ =>
    match xs, hlen with
    | [y0, y1, y2, y3, y4, y5, y6, y7], _ =>
      have g0 : DataW.trod enc Try.prog w base spare held n 3 (([c0, c1, c2, c3, c4, c5, c6, c7].drop 0).take (Try.prog.cellsOf 3)) = some y0 := hf 0 _ rfl
      have g1 : DataW.trod enc Try.prog w base spare held n 3 (([c0, c1, c2, c3, c4, c5, c6, c7].drop 1).take (Try.prog.cellsOf 3)) = some y1 := hf 1 _ rfl
      have g2 : DataW.trod enc Try.prog w base spare held n 3 (([c0, c1, c2, c3, c4, c5, c6, c7].drop 2).take (Try.prog.cellsOf 3)) = some y2 := hf 2 _ rfl
      have g3 : DataW.trod enc Try.prog w base spare held n 3 (([c0, c1, c2, c3, c4, c5, c6, c7].drop 3).take (Try.prog.cellsOf 3)) = some y3 := hf 3 _ rfl
      have g4 : DataW.trod enc Try.prog w base spare held n 3 (([c0, c1, c2, c3, c4, c5, c6, c7].drop 4).take (Try.prog.cellsOf 3)) = some y4 := hf 4 _ rfl
      have g5 : DataW.trod enc Try.prog w base spare held n 3 (([c0, c1, c2, c3, c4, c5, c6, c7].drop 5).take (Try.prog.cellsOf 3)) = some y5 := hf 5 _ rfl
      have g6 : DataW.trod enc Try.prog w base spare held n 3 (([c0, c1, c2, c3, c4, c5, c6, c7].drop 6).take (Try.prog.cellsOf 3)) = some y6 := hf 6 _ rfl
      have g7 : DataW.trod enc Try.prog w base spare held n 3 (([c0, c1, c2, c3, c4, c5, c6, c7].drop 7).take (Try.prog.cellsOf 3)) = some y7 := hf 7 _ rfl
      rw [hC3] at g0 g1 g2 g3 g4 g5 g6 g7
      obtain ⟨a0, rfl, h0⟩ := one Try.underlying3 g0
      obtain ⟨a1, rfl, h1⟩ := one Try.underlying3 g1
      obtain ⟨a2, rfl, h2⟩ := one Try.underlying3 g2
      obtain ⟨a3, rfl, h3⟩ := one Try.underlying3 g3
      obtain ⟨a4, rfl, h4⟩ := one Try.underlying3 g4
      obtain ⟨a5, rfl, h5⟩ := one Try.underlying3 g5
      obtain ⟨a6, rfl, h6⟩ := one Try.underlying3 g6
      obtain ⟨a7, rfl, h7⟩ := one Try.underlying3 g7
      refine ⟨a0, a1, a2, a3, a4, a5, a6, a7, rfl, ?_⟩
      intro a ha
      simp only [List.mem_cons, List.not_mem_nil, or_false] at ha
      rcases ha with rfl | rfl | rfl | rfl | rfl | rfl | rfl | rfl <;> assumption
theorem open_value {fuel : Nat} {cs : List Value} {y : DataW H × List MemPlace} (h : DataW.trod enc Try.prog w base spare held fuel 38 cs = some y) :
    ∃ a0 a1 : Int, cs = [.int .i64 a0, .int .i64 a1] ∧ (Lit.int .i64 a0).wf = true ∧ (Lit.int .i64 a1).wf = true := by
  obtain ⟨xs, n, _, _, hl, hlen, hf⟩ := DataW.trod_struct Try.underlying38 h
  have hC : Try.prog.cellsOf 38 = 2 := by kernel_rfl
  have hC3 : Try.prog.cellsOf 3 = 1 := by kernel_rfl
  have hC2 : Try.prog.cellsOf 2 = 1 := by kernel_rfl
  rw [hC] at hl
  match cs, hl with
  | [c0, c1], _ =>
    match xs, hlen with
    | [y0, y1], _ =>
      have g0 : DataW.trod enc Try.prog w base spare held n 3 (([c0, c1].drop 0).take (Try.prog.cellsOf 3)) = some y0 := hf 0 _ rfl
      have g1 : DataW.trod enc Try.prog w base spare held n 2 (([c0, c1].drop 1).take (Try.prog.cellsOf 2)) = some y1 := hf 1 _ rfl
      rw [hC3] at g0
      rw [hC2] at g1
      obtain ⟨a0, rfl, h0⟩ := one Try.underlying3 g0
      obtain ⟨a1, rfl, h1⟩ := one Try.underlying2 g1
      exact ⟨a0, a1, rfl, h0, h1⟩
theorem open_ints {fuel : Nat} {c : Value} {y : DataW H × List MemPlace} (h : DataW.trod enc Try.prog w base spare held fuel 40 [c] = some y) :
    ∃ (A : Option Addr) (cap : Nat) (l : List Int), c = .slice A l.length cap ∧ Kd.C (Kd.int .i64) w A l.length l ∧ l.length ≤ cap ∧ l.length ≤ maxLen ∧ ∀ n ∈ l, (Lit.int .i64 n).wf = true := by
  have key : ∃ (A : Option Addr) (len cap : Nat) (zs : List Int), c = .slice A len cap ∧ ((A = none ∧ len = 0 ∧ cap = 0 ∧ zs = []) ∨ ∃ x, A = some x ∧ len ≤ cap ∧ cap ≤ maxLen ∧ len ≤ zs.length ∧ (∀ i, i < zs.length → w.cell? (x.add i) = some (.int .i64 (zs.getD i 0))) ∧ ∀ n ∈ zs, (Lit.int .i64 n).wf = true) := by
    rcases ChangeShapes.open_ints Try.underlying40 Try.underlying2 (by kernel_rfl) h with ⟨hcs, _⟩ | ⟨x, l, cp, zs, hcs, _, hl, hm, hz, _, hcell, hwz⟩
    · simp only [List.cons.injEq, and_true] at hcs
      exact ⟨none, 0, 0, [], hcs, .inl ⟨rfl, rfl, rfl, rfl⟩⟩
    · simp only [List.cons.injEq, and_true] at hcs
      exact ⟨some x, l, cp, zs, hcs, .inr ⟨x, rfl, hl, hm, by split at hz <;> omega, hcell, hwz⟩⟩
  obtain ⟨A, len, cap, zs, rfl, ⟨rfl, rfl, rfl, rfl⟩ | ⟨x, rfl, hl, hm, hz, hc, hw⟩⟩ := key
  · exact ⟨none, 0, [], rfl, ⟨rfl, by simp, fun h => absurd h (by simp)⟩, by simp, by simp, by simp⟩
  · have hlen : (zs.take len).length = len := by simp; omega
    refine ⟨some x, cap, zs.take len, by rw [hlen], ?_, by omega, by omega, fun n hn => hw n (List.mem_of_mem_take hn)⟩
    rw [hlen]
    refine Kd.C_of_reads (d := (0 : Int)) (h1 := fun _ => rfl) ⟨hlen, by simp only [maxLen] at hm; omega, fun _ => ⟨x, rfl, fun j hj => ?_⟩⟩
    rw [hc j (by omega)]
    congr 2
    simp [List.getD, List.getElem?_take, hj]
theorem open_values {fuel : Nat} {c : Value} {y : DataW H × List MemPlace} (h : DataW.trod enc Try.prog w base spare held fuel 41 [c] = some y) :
    ∃ (A : Option Addr) (cap : Nat) (l : List S38), c = .slice A l.length cap ∧ Kd.C k38 w A l.length l ∧ l.length ≤ cap ∧ l.length ≤ maxLen ∧ ∀ v ∈ l, (Lit.int .i64 v.f0).wf = true ∧ (Lit.int .i64 v.f1).wf = true := by
  have hC : Try.prog.cellsOf 38 = 2 := by kernel_rfl
  rcases open_slice Try.underlying41 h with ⟨hcs, _⟩ | ⟨a, len, cap, m, n, D, Pl, hcs, _, hl, hm, hmm, _, hi⟩
  · simp only [List.cons.injEq, and_true] at hcs
    exact ⟨none, 0, [], hcs, ⟨rfl, by simp, fun h => absurd h (by simp)⟩, by simp, by simp, by simp⟩
  · simp only [List.cons.injEq, and_true] at hcs
    have hlm : len ≤ m := by split at hmm <;> omega
    have key : ∀ i, ∃ v : S38, i < len → w.cell? (a.add (i * 2 + 0)) = some (.int .i64 v.f0) ∧ w.cell? (a.add (i * 2 + 1)) = some (.int .i64 v.f1) ∧ (Lit.int .i64 v.f0).wf = true ∧ (Lit.int .i64 v.f1).wf = true := by
      intro i
      by_cases hil : i < len
      · obtain ⟨cs', hc, ht'⟩ := hi i (by omega)
        rw [hC] at hc
        obtain ⟨a0, a1, rfl, h0, h1⟩ := open_value ht'
        obtain ⟨_, _, hat⟩ := World.cells?_some hc
        refine ⟨⟨a0, a1⟩, fun _ => ⟨?_, ?_, h0, h1⟩⟩
        · rw [← Go.Deep.add_add]
          exact hat 0 (by omega)
        · rw [← Go.Deep.add_add]
          exact hat 1 (by omega)
      · exact ⟨z38, fun h => absurd h hil⟩
    obtain ⟨F, hF⟩ := Classical.axiomOfChoice key
    have hlen : ((List.range len).map F).length = len := by simp
    refine ⟨some a, cap, (List.range len).map F, by rw [hlen]; exact hcs, ?_, by omega, by omega, ?_⟩
    · refine ⟨rfl, by simp only [maxLen] at hm; omega, fun _ => ⟨a, rfl, fun j p hp => ?_⟩⟩
      have hj : j < len := by have := (List.getElem?_eq_some_iff.1 hp).1; omega
      obtain rfl : F j = p := by simpa [hj] using hp
      obtain ⟨g0, g1, _, _⟩ := hF j hj
      refine ⟨_, rfl, k38_mk w (F j), fun i u hu => ?_⟩
      match i, hu with
      | 0, hu =>
        obtain rfl := Option.some.inj hu
        exact g0
      | 1, hu =>
        obtain rfl := Option.some.inj hu
        exact g1
    · intro v hv
      simp only [List.mem_map, List.mem_range] at hv
      obtain ⟨j, hj, rfl⟩ := hv
      exact ⟨(hF j hj).2.2.1, (hF j hj).2.2.2⟩
theorem open_object {fuel : Nat} {cs : List Value} {y : DataW H × List MemPlace} (h : DataW.trod enc Try.prog w base spare held fuel 43 cs = some y) :
    ∃ (a0 a1 a2 a3 a4 a5 a6 a7 : Int) (A8 : Option Addr) (c8 : Nat) (l8 : List Int) (A9 : Option Addr) (c9 : Nat) (l9 : List S38), cs = [.int .i64 a0, .int .i64 a1, .int .i64 a2, .int .i64 a3, .int .i64 a4, .int .i64 a5, .int .i64 a6, .int .i64 a7, .slice A8 l8.length c8, .slice A9 l9.length c9] ∧ (∀ a ∈ [a0, a1, a2, a3, a4, a5, a6, a7], (Lit.int .i64 a).wf = true) ∧
      Kd.C (Kd.int .i64) w A8 l8.length l8 ∧ l8.length ≤ c8 ∧ l8.length ≤ maxLen ∧ (∀ n ∈ l8, (Lit.int .i64 n).wf = true) ∧ Kd.C k38 w A9 l9.length l9 ∧ l9.length ≤ c9 ∧ l9.length ≤ maxLen ∧ (∀ v ∈ l9, (Lit.int .i64 v.f0).wf = true ∧ (Lit.int .i64 v.f1).wf = true) := by
  obtain ⟨y0, y1, y2, n, _, hl, g0, g1, g2⟩ := trod_struct3 Try.underlying43 h
  have hC : Try.prog.cellsOf 43 = 10 := by kernel_rfl
  have hC0 : Try.prog.cellsOf 23 = 8 := by kernel_rfl
  have hC1 : Try.prog.cellsOf 40 = 1 := by kernel_rfl
  have hC2 : Try.prog.cellsOf 41 = 1 := by kernel_rfl
  rw [hC] at hl
  match cs, hl with
  | [d0, d1, d2, d3, d4, d5, d6, d7, d8, d9], _ =>
    replace g0 : DataW.trod enc Try.prog w base spare held n 23 (([d0, d1, d2, d3, d4, d5, d6, d7, d8, d9].drop 0).take (Try.prog.cellsOf 23)) = some y0 := g0
    replace g1 : DataW.trod enc Try.prog w base spare held n 40 (([d0, d1, d2, d3, d4, d5, d6, d7, d8, d9].drop 8).take (Try.prog.cellsOf 40)) = some y1 := g1
    replace g2 : DataW.trod enc Try.prog w base spare held n 41 (([d0, d1, d2, d3, d4, d5, d6, d7, d8, d9].drop 9).take (Try.prog.cellsOf 41)) = some y2 := g2
    rw [hC0] at g0
    rw [hC1] at g1
    rw [hC2] at g2
    obtain ⟨a0, a1, a2, a3, a4, a5, a6, a7, e0, hw0⟩ := open_head g0
    obtain ⟨A8, c8, l8, rfl, k8, m8, n8, w8⟩ := open_ints g1
    obtain ⟨A9, c9, l9, rfl, k9, m9, n9, w9⟩ := open_values g2
    simp only [List.drop_zero, List.take_succ_cons, List.take_zero, List.cons.injEq, and_true] at e0
    obtain ⟨rfl, rfl, rfl, rfl, rfl, rfl, rfl, rfl⟩ := e0
    exact ⟨a0, a1, a2, a3, a4, a5, a6, a7, A8, c8, l8, A9, c9, l9, rfl, hw0, k8, m8, n8, w8, k9, m9, n9, w9⟩
end
end Go.Proofs.Ytepoalgoombpeaa.OpenRows
