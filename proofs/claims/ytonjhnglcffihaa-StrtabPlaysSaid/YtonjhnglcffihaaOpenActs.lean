/- PROVED: what a list of calls given to a law looks like in memory. Conditions: none. -/
import Derived.Test.YtonjhnglcffihaaPrintx0
import Derived.Deep.Slices
import Derived.Deep.Fields
import Derived.Deep.Strs
import Derived.ChangeSame
import Derived.Lib.SmallJoins
set_option linter.unusedVariables false
set_option linter.unusedSimpArgs false
namespace Go.Proofs.Ytonjhnglcffihaa.OpenRows
open Go.ChangeShapes Go.WideShapes Go.Deep Go.RowKit Go.Proofs.Ytonjhnglcffihaa.Print Go.Proofs.YtonjhnglcffihaaW.PrintWords
section
variable {H : Type} {enc : TypeId × Value → H} {w : World} {base : Nat} {spare : Nat → Bool} {held : Bool}
theorem one {n : Nat} {c : Value} {y : DataW H × List MemPlace} {t : TypeId} (ht : Try.prog.underlying t = some (.int .i64)) (h : DataW.trod enc Try.prog w base spare held n t [c] = some y) : ∃ a, c = .int .i64 a ∧ (Lit.int .i64 a).wf = true := by
  obtain ⟨a, e, _, hw⟩ := DataW.trod_int ht h
  simp only [List.cons.injEq, and_true] at e
  exact ⟨a, e, hw⟩
theorem open_act {fuel : Nat} {cs : List Value} {y : DataW H × List MemPlace} (h : DataW.trod enc Try.prog w base spare held fuel 29 cs = some y) :
    ∃ (a0 : Int) (a1 : ByteArray) (a2 : Int), cs = [.int .i64 a0, .string a1, .int .i64 a2] ∧ a1.size ≤ maxLen ∧ (Lit.int .i64 a2).wf = true := by
  obtain ⟨xs, n, _, _, hl, hlen, hf⟩ := DataW.trod_struct Try.underlying29 h
  have hC : Try.prog.cellsOf 29 = 3 := by kernel_rfl
  have hC3 : Try.prog.cellsOf 3 = 1 := by kernel_rfl
  have hC9 : Try.prog.cellsOf 9 = 1 := by kernel_rfl
  rw [hC] at hl
  match cs, hl with
  | [c0, c1, c2], _ =>
    match xs, hlen with
    | [y0, y1, y2], _ =>
      have g0 : DataW.trod enc Try.prog w base spare held n 3 (([c0, c1, c2].drop 0).take (Try.prog.cellsOf 3)) = some y0 := hf 0 _ rfl
      have g1 : DataW.trod enc Try.prog w base spare held n 9 (([c0, c1, c2].drop 1).take (Try.prog.cellsOf 9)) = some y1 := hf 1 _ rfl
      have g2 : DataW.trod enc Try.prog w base spare held n 3 (([c0, c1, c2].drop 2).take (Try.prog.cellsOf 3)) = some y2 := hf 2 _ rfl
      rw [hC3] at g0 g2
      rw [hC9] at g1
      obtain ⟨a0, rfl, h0⟩ := one Try.underlying3 g0
      obtain ⟨a2, rfl, h2⟩ := one Try.underlying3 g2
      obtain ⟨s, e, _, hs⟩ := DataW.trod_string Try.underlying9 g1
      simp only [List.drop_succ_cons, List.drop_zero, List.take_succ_cons, List.take_zero, List.cons.injEq, and_true] at e
      subst e
      exact ⟨a0, s, a2, rfl, hs, h2⟩
theorem open_acts {fuel : Nat} {c : Value} {y : DataW H × List MemPlace} (h : DataW.trod enc Try.prog w base spare held fuel 22 [c] = some y) :
    ∃ (A : Option Addr) (cap : Nat) (l : List S29), c = .slice A l.length cap ∧ Kd.C k29 w A l.length l ∧ l.length ≤ cap ∧ l.length ≤ maxLen ∧ ∀ v ∈ l, v.f1.size ≤ maxLen ∧ (Lit.int .i64 v.f2).wf = true := by
  have hC : Try.prog.cellsOf 29 = 3 := by kernel_rfl
  rcases open_slice Try.underlying22 h with ⟨hcs, _⟩ | ⟨a, len, cap, m, n, D, Pl, hcs, _, hl, hm, hmm, _, hi⟩
  · simp only [List.cons.injEq, and_true] at hcs
    exact ⟨none, 0, [], hcs, ⟨rfl, by simp, fun h => absurd h (by simp)⟩, by simp, by simp, by simp⟩
  · simp only [List.cons.injEq, and_true] at hcs
    have hlm : len ≤ m := by split at hmm <;> omega
    have key : ∀ i, ∃ v : S29, i < len → w.cell? (a.add (i * 3 + 0)) = some (.int .i64 v.f0) ∧ w.cell? (a.add (i * 3 + 1)) = some (.string v.f1) ∧ w.cell? (a.add (i * 3 + 2)) = some (.int .i64 v.f2) ∧ v.f1.size ≤ maxLen ∧ (Lit.int .i64 v.f2).wf = true := by
      intro i
      by_cases hil : i < len
      · obtain ⟨cs', hc, ht'⟩ := hi i (by omega)
        rw [hC] at hc
        obtain ⟨a0, a1, a2, rfl, h0, h1⟩ := open_act ht'
        obtain ⟨_, _, hat⟩ := World.cells?_some hc
        refine ⟨⟨a0, a1, a2⟩, fun _ => ⟨?_, ?_, ?_, h0, h1⟩⟩
        · rw [← Go.Deep.add_add]
          exact hat 0 (by omega)
        · rw [← Go.Deep.add_add]
          exact hat 1 (by omega)
        · rw [← Go.Deep.add_add]
          exact hat 2 (by omega)
      · exact ⟨z29, fun h => absurd h hil⟩
    obtain ⟨F, hF⟩ := Classical.axiomOfChoice key
    have hlen : ((List.range len).map F).length = len := by simp
    refine ⟨some a, cap, (List.range len).map F, by rw [hlen]; exact hcs, ?_, by omega, by omega, ?_⟩
    · refine ⟨rfl, by simp only [maxLen] at hm; omega, fun _ => ⟨a, rfl, fun j p hp => ?_⟩⟩
      have hj : j < len := by have := (List.getElem?_eq_some_iff.1 hp).1; omega
      obtain rfl : F j = p := by simpa [hj] using hp
      obtain ⟨g0, g1, g2, _, _⟩ := hF j hj
      refine ⟨_, rfl, k29_mk w (F j), fun i u hu => ?_⟩
      match i, hu with
      | 0, hu =>
        obtain rfl := Option.some.inj hu
        exact g0
      | 1, hu =>
        obtain rfl := Option.some.inj hu
        exact g1
      | 2, hu =>
        obtain rfl := Option.some.inj hu
        exact g2
    · intro v hv
      simp only [List.mem_map, List.mem_range] at hv
      obtain ⟨j, hj, rfl⟩ := hv
      exact ⟨(hF j hj).2.2.2.1, (hF j hj).2.2.2.2⟩
end
end Go.Proofs.Ytonjhnglcffihaa.OpenRows
