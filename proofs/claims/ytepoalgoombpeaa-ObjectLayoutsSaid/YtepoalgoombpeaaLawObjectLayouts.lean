/- PROVED: for every input the law ObjectLayouts returns true, and each argument reads afterwards as it read before. Conditions: none. -/
import Derived.Test.YtepoalgoombpeaaRows
import Derived.Test.YtepoalgoombpeaaPrintx32
import Derived.Test.YtepoalgoombpeaaOpenRows
import Derived.Test.YtepoalgoombpeaaPureObjectLayouts
import Derived.WalkKit
import Derived.ProofKit
import Derived.OpenShut
import Derived.ShutString
import Derived.ChangeOld
import Derived.Below
import Derived.SizedLaws
import Derived.Test.YtepoalgoombpeaaWSized
namespace Go.Proofs.Ytepoalgoombpeaa.objectLayouts
open Go.ChangeShapes Go.WideShapes Go.ChangeAt Go.RowKit
open Go.ChangeMaps (open_string shut_string)
set_option linter.unusedVariables false
theorem own : ownKnob Try.prog.godebug = none := by kernel_rfl
theorem laidOut : laidOutB Try.prog = true := by kernel_rfl
def IsRow (k : IntKind) (w : World) (a : Option Addr) (len cap : Nat) (zs : List Int) : Prop :=
  (a = none ∧ len = 0 ∧ cap = 0 ∧ zs = []) ∨
  ∃ x, a = some x ∧ len ≤ cap ∧ cap ≤ maxLen ∧ zs.length = cap ∧ (∀ i, i < zs.length → w.cell? (x.add i) = some (.int k (zs.getD i 0))) ∧ ∀ n ∈ zs, (Lit.int k n).wf = true
set_option maxRecDepth 100000 in
theorem lifted (os : Os) (started : os.Started) (H : Type) (enc : TypeId × Value → H) :
    ReturnsInHanded {} Try.checked os 7 .any (Rows.objectLayoutsSpec.pre6 enc Try.prog Try.f7 Rows.objectLayoutsRow.domain false) (Rows.objectLayoutsSpec.post enc Try.prog Try.f7 false true false false) := by
  refine returnsInHanded_of_change_sized (C := Try.checked) own started (by kernel_rfl) Try.func7
    (ChangeSpec.witness6 (enc := enc) (C := Try.checked) false ⟨#[], #[.agg #[.int .i64 0, .int .i64 0, .int .i64 0, .int .i64 0, .int .i64 0, .int .i64 0, .int .i64 0, .int .i64 0, .slice none 0 0, .slice none 0 0]], []⟩ 8 (by kernel_rfl) (by kernel_rfl) (by kernel_rfl) (by kernel_rfl)) ?_
  intro W base args ds gs before hval0 hW hcnd hsz0 _
  have hsz : (DataW.weightsEach Try.prog (Try.f7.params.toList ++ Rows.objectLayoutsSpec.plain.varTypes Try.prog) (ds ++ gs)).all (· ≤ reachBytes) = true := hsz0
  have hval : ∀ (j : Nat) t v, Try.f7.params[j]? = some t → args[j]? = some v → Value.okWide Try.prog W .any base t v := hval0
  have hW' := hW
  obtain ⟨p, q, hA0, hV, rfl, hfz, hnd⟩ := hW
  have hA : DataW.TrodAll enc Try.prog W 0 (fun _ => true) true Try.f7.params.toList args.toList ds p := hA0
  rw [Try.params7] at hA hval hsz
  obtain ⟨v0, vs0, d0, ds0, p0, q0, hargs0, rfl, rfl, h0, r0⟩ := trodAll_cons hA
  obtain ⟨rfl, rfl, rfl⟩ := trodAll_nil r0
  obtain rfl : args = #[v0] := by cases args; simp_all
  obtain ⟨rfl, rfl⟩ := trodVars_none hV
  have k0 := h0
  have lt0 : ∀ x ∈ p0, x.block < W.heap.size := by obtain ⟨m, hm⟩ := k0; exact DataW.trod_lt m _ _ _ hm
  obtain ⟨cs0, e0, _⟩ := okWide_struct Try.underlying43 (hval 0 43 v0 rfl rfl)
  subst e0
  obtain ⟨cs0⟩ := cs0
  obtain ⟨fu0, hf0⟩ := h0
  obtain ⟨x0_0, x0_1, x0_2, x0_3, x0_4, x0_5, x0_6, x0_7, A8, c8, l8, A9, c9, l9, e0, w0, hr8, hc8, hm8, hw8, hr9, hc9, hm9, hw9⟩ := OpenRows.open_object (cs := cs0) hf0
  subst e0
  clear hA0 hval0 hsz0 hsz hval
  obtain ⟨k, hk⟩ := Pure.ObjectLayouts x0_0 x0_1 x0_2 x0_3 x0_4 x0_5 x0_6 x0_7 w0 l8 l9 hm8 hw8 hm9 hw9
  refine (Print.heirloomlaw04_ObjectLayouts.calls k x0_0 x0_1 x0_2 x0_3 x0_4 x0_5 x0_6 x0_7 A8 c8 l8 A9 c9 l9 true W hr8 hc8 hr9 hc9 hk).mono fun e W' ⟨he, bel⟩ => ?_
  subst he
  exact ⟨_, rfl, _, _, _, [], _, [], hW', trodAll_mk1 (shut_bool Try.underlying4 _), (trodAll_cons_mk (Below.trod laidOut (by kernel_rfl) (of_decide_eq_true (by kernel_rfl)) k0 bel lt0) trodAll_mk0), rfl, bel.frame _, fun h => by cases h⟩
theorem over : Rows.objectLayoutsRow.holds Try.pinned (OpenSpec.ofChange Rows.objectLayoutsSpec) :=
  OpenClaim.holds_of_wide 7 Try.f7 rfl rfl rfl rfl rfl rfl rfl ⟨rfl, rfl, rfl, rfl, rfl⟩ rfl rfl rfl rfl rfl (by kernel_rfl) Try.func7 (by kernel_rfl)
    (of_decide_eq_true (by kernel_rfl)) (by unfold Func.isWrapper; first | (rw [if_pos (by decide +kernel)]; kernel_rfl) | (rw [if_neg (by decide +kernel)]; exact ⟨rfl, rfl⟩))
    (fun os started H enc _ => lifted os started H enc)
theorem proved : Rows.ObjectLayoutsSaid := over
#print axioms proved
end Go.Proofs.Ytepoalgoombpeaa.objectLayouts
namespace Go.Proofs.Ytepoalgoombpeaa
/-- The row, under a short name, for the claim. -/
theorem objectLayouts_holds : Rows.ObjectLayoutsSaid := objectLayouts.proved
end Go.Proofs.Ytepoalgoombpeaa
