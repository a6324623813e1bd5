/- PROVED: what New makes. Conditions: none. -/
import Derived.Test.YtonjhnglcffihaaTabOne
set_option linter.unusedVariables false
set_option linter.unusedSimpArgs false
namespace Go.Proofs.Ytonjhnglcffihaa.Tab
open Go Go.RowKit Go.Proofs.Ytonjhnglcffihaa.Print Go.Proofs.YtonjhnglcffihaaW.PrintWords Go.Proofs.YtonjhnglcffihaaW.PrintLast Go.Proofs.YtonjhnglcffihaaW.PrintMore
theorem info63 : (Try.prog.info? 63).map (fun i => (i.zero, i.size, i.bytes)) = some (some (.slice none 0 0), 1, 24) := by kernel_rfl
def St.new : St := ⟨[], 4, 0⟩
theorem St.new_ok : St.new.Ok := ⟨by decide, ⟨2, rfl⟩, by decide, by decide, by decide, by decide, by simp [St.new], by simp [St.new], by simp [St.new], by simp [St.new], by simp [St.new]⟩
theorem new_calls (w : World) : Calls Try.prog 9 #[] w fun e w' => ∃ B, e = .returned (.pointer (some ⟨B, 0, none⟩)) ∧ Tab w' (fun k => w.heap.size ≤ k ∧ k < w'.heap.size) B St.new ∧ Below w.heap.size w w' := by
  have hmm := @run_makeMap Try.prog
  have hmk := run_make_row' (P := Try.prog) 58 63 (.slice none 0 0) 24 Try.underlying58 info63 rfl .i64 .i64 4 (by omega) (by omega)
  have e4 : ((4 : Nat) : Int) = 4 := rfl
  rw [e4] at hmk
  go_enter Try.func9, Try.ntmps9
  go_wp2
  go_ret
  refine ⟨w.heap.size + 2, rfl, ⟨St.new_ok, w.heap.size, w.heap.size + 1, fun _ => .slice none 0 0, 4, .map [], ?_⟩, below_alloc (below_alloc (below_alloc (Below.refl _ _) _) _) _⟩
  have hs2 : ((w.alloc (.cells (madeCells #[Value.slice none 0 0] 4) 63)).alloc (.map #[] 0)).heap.size = w.heap.size + 2 := by simp
  refine ⟨?_, ?_, ?_, ?_, ?_, ?_, ?_, ?_⟩
  · rw [← hs2]; exact Array.getElem?_push_size
  · exact ((World.rowIs_made w (.slice none 0 0) 4 63).alloc _).alloc _
  · have hm := World.ownsMap_made (H := Unit) (w.alloc (.cells (madeCells #[Value.slice none 0 0] 4) 63)) Try.prog 3 (plainElem Try.prog 9)
    rw [show (w.alloc (.cells (madeCells #[Value.slice none 0 0] 4) 63)).heap.size = w.heap.size + 1 by simp] at hm
    exact hm.alloc _
  · exact ⟨fun h => rfl, by simp [St.new], fun h _ => rfl, rfl⟩
  · intro i hi; exact World.ownsRow_nil _ _ _ _
  · intro i j _ _ _ g hg; simp [Value.ownBlock] at hg
  · simp [Value.ownBlock]; omega
  · unfold maxLen; decide
end Go.Proofs.Ytonjhnglcffihaa.Tab
