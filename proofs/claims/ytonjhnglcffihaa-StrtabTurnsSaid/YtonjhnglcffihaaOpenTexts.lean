/- PROVED: what a list of texts given to a law looks like in memory. Conditions: none. -/
import Derived.Test.YtonjhnglcffihaaPrintx0
import Derived.Deep.Slices
import Derived.Deep.Strs
import Derived.ChangeSame
import Derived.SizedLaws
set_option linter.unusedVariables false
set_option linter.unusedSimpArgs false
namespace Go.Proofs.Ytonjhnglcffihaa.OpenRows
open Go.ChangeShapes Go.WideShapes Go.Deep Go.RowKit Go.Proofs.Ytonjhnglcffihaa.Print Go.Proofs.YtonjhnglcffihaaW.PrintWords
section
variable {H : Type} {enc : TypeId × Value → H} {w : World} {base : Nat} {spare : Nat → Bool} {held : Bool}
theorem all_weights {P : Program} {e : TypeId} {d : DataW H} : ∀ {l : List (DataW H)}, d ∈ l → ∀ n ∈ d.weights P e, n ∈ DataW.weightsAll P e l
  | [], h, _, _ => by simp at h
  | x :: l, h, n, hn => by
    simp only [DataW.weightsAll, List.mem_append]
    rcases List.mem_cons.1 h with rfl | h
    · exact Or.inl hn
    · exact Or.inr (all_weights h n hn)
theorem open_texts {fuel : Nat} {c : Value} {y : DataW H × List MemPlace} (h : DataW.trod enc Try.prog w base spare held fuel 31 [c] = some y) {ts : List TypeId} {ds : List (DataW H)} {j : Nat}
    (hsz : (DataW.weightsEach Try.prog ts ds).all (· ≤ reachBytes) = true) (ht : ts[j]? = some 31) (hd : ds[j]? = some y.1) :
    ∃ (A : Option Addr) (cap : Nat) (l : List ByteArray), c = .slice A l.length cap ∧ Kd.C Kd.string w A l.length l ∧ l.length ≤ cap ∧ ∀ v ∈ l, v.size ≤ 140737488351232 := by
  rcases open_strs Try.underlying31 Try.underlying9 (by kernel_rfl) h with ⟨hcs, _⟩ | ⟨a, len, cap, m, Sx, hcs, _, hl, hm, hmm, hx, hcell⟩
  · simp only [List.cons.injEq, and_true] at hcs
    exact ⟨none, 0, [], hcs, Kd.C_nil _ _, by simp, by simp⟩
  · simp only [List.cons.injEq, and_true] at hcs
    have hlm : len ≤ m := by split at hmm <;> omega
    have hlen : ((List.range len).map Sx).length = len := by simp
    refine ⟨some a, cap, (List.range len).map Sx, by rw [hlen]; exact hcs, ?_, by omega, fun v hv => ?_⟩
    · refine Kd.C_of_reads (d := ByteArray.empty) (h1 := fun _ => rfl) ⟨by rw [hlen], by simp only [maxLen] at hm; omega, fun _ => ⟨a, rfl, fun i hi => ?_⟩⟩
      rw [hlen] at hi
      rw [(hcell i (by omega)).1]
      simp [List.getD, hi]
    · rw [hx] at hd
      have := List.all_eq_true.1 hsz v.size (DataW.weights_mem_each ht hd v.size (by
        simp only [DataW.weights, Try.underlying31]
        refine List.mem_cons_of_mem _ (List.mem_append_left _ ?_)
        obtain ⟨i, hi, rfl⟩ := List.mem_map.1 hv
        exact all_weights (List.mem_map.2 ⟨i, hi, rfl⟩) _ (by simp [DataW.weights])))
      have hr : reachBytes = 140737488351232 := rfl
      rw [← hr]
      exact of_decide_eq_true this
end
end Go.Proofs.Ytonjhnglcffihaa.OpenRows
