/- PROVED: the law's Lean function is true of every object. Conditions: none. -/
import Derived.Test.YtepoalgoombpeaaInvLib
import Derived.Test.YtepoalgoombpeaaPrintx31
set_option linter.unusedVariables false
set_option linter.unusedSimpArgs false
namespace Go.Proofs.Ytepoalgoombpeaa.Pure
open Go.RowKit Go.Proofs.Ytepoalgoombpeaa.Print Go.Proofs.YtepoalgoombpeaaW.PrintWords Go.Proofs.YtepoalgoombpeaaW.PrintLast
theorem cells_cases (a0 a1 a2 a3 a4 a5 a6 a7 : Int) (l8 : List Int) (l9 : List S38) :
    ((cellsZ a0 a1 a2 a3 a4 a5 a6 a7 l8 l9).2 ≠ 0 ∧ (cellsZ a0 a1 a2 a3 a4 a5 a6 a7 l8 l9).1 = []) ∨
    (cellsZ a0 a1 a2 a3 a4 a5 a6 a7 l8 l9 = ([a0 + 16 * a1 + 64 * a2 + 512 * a3 + 2048 * a4, a6 + 8192 * a7 + 67108864 * a5] ++ l8 ++ flat l9, 0) ∧ rightZ a0 a1 a2 a3 a4 a5 a6 a7 = 0 ∧ a6 = (l8.length : Int) ∧ a7 = (l9.length : Int) ∧ l9.all okV = true) := by
  unfold cellsZ tailZ
  by_cases h : rightZ a0 a1 a2 a3 a4 a5 a6 a7 = 0
  · rw [if_neg (by simp [h])]
    by_cases hc : a6 = (l8.length : Int) ∧ a7 = (l9.length : Int)
    · rw [if_pos hc]
      by_cases ho : l9.all okV = true
      · rw [if_pos ho]
        exact .inr ⟨rfl, h, hc.1, hc.2, ho⟩
      · rw [if_neg ho]
        exact .inl ⟨by decide, rfl⟩
    · rw [if_neg hc]
      exact .inl ⟨by decide, rfl⟩
  · rw [if_pos h]
    exact .inl ⟨h, rfl⟩
theorem laid_wf {a0 a1 a2 a3 a4 a5 a6 a7 : Int} {l8 : List Int} {l9 : List S38} (h : rightZ a0 a1 a2 a3 a4 a5 a6 a7 = 0) (w8 : ∀ n ∈ l8, (Lit.int .i64 n).wf = true) (w9 : ∀ v ∈ l9, (Lit.int .i64 v.f0).wf = true ∧ (Lit.int .i64 v.f1).wf = true) : ∀ n ∈ [a0 + 16 * a1 + 64 * a2 + 512 * a3 + 2048 * a4, a6 + 8192 * a7 + 67108864 * a5] ++ l8 ++ flat l9, (Lit.int .i64 n).wf = true := by
  obtain ⟨h0, h1, h2, h3, h4, h5, h6, h7⟩ := rightZ.zero h
  have mk : ∀ x : Int, -9223372036854775808 ≤ x → x ≤ 9223372036854775807 → (Lit.int .i64 x).wf = true := fun x p q => by
    simp only [Lit.wf, Bool.and_eq_true, decide_eq_true_eq]
    exact ⟨p, q⟩
  intro n hn
  simp only [List.mem_append, List.mem_cons, List.not_mem_nil, or_false] at hn
  rcases hn with ((rfl | rfl) | hn) | hn
  · exact mk _ (by omega) (by omega)
  · exact mk _ (by omega) (by omega)
  · exact w8 n hn
  · unfold flat at hn
    simp only [List.mem_flatMap, List.mem_cons, List.not_mem_nil, or_false] at hn
    obtain ⟨v, hv, rfl | rfl⟩ := hn
    · exact (w9 v hv).1
    · exact (w9 v hv).2
theorem ObjectBack (x0_0 x0_1 x0_2 x0_3 x0_4 x0_5 x0_6 x0_7 : Int) (w0 : ∀ a ∈ [x0_0, x0_1, x0_2, x0_3, x0_4, x0_5, x0_6, x0_7], (Lit.int .i64 a).wf = true) (l8 : List Int) (l9 : List S38) (hm8 : l8.length ≤ maxLen) (hw8 : ∀ n ∈ l8, (Lit.int .i64 n).wf = true) (hm9 : l9.length ≤ maxLen) (hw9 : ∀ v ∈ l9, (Lit.int .i64 v.f0).wf = true ∧ (Lit.int .i64 v.f1).wf = true) : ∃ k, heirloomlaw04_ObjectBack.f k x0_0 x0_1 x0_2 x0_3 x0_4 x0_5 x0_6 x0_7 l8 l9 = some true := by
  refine evRounds ?_
  by_cases hs : (l8.length : Int) ≤ 300 ∧ (l9.length : Int) ≤ 300
  · have hc := oCells x0_0 x0_1 x0_2 x0_3 x0_4 x0_5 x0_6 x0_7 l8 l9 (by omega) (by omega)
    refine Ev.congr (f := fun k => (object_Cells.f k x0_0 x0_1 x0_2 x0_3 x0_4 x0_5 x0_6 x0_7 l8 l9).bind fun c => (if c.2 = 0 then ((object_Read.f k c.1).bind fun b => ((object_Size.f k x0_0 x0_1 x0_2 x0_3 x0_4 x0_5 x0_6 x0_7).bind fun z => (if (c.1.length : Int) = z then (if b.2.2.2.2.2.2.2.2.2.2 = 0 then ((heirloomref04_Same.f k x0_0 x0_1 x0_2 x0_3 x0_4 x0_5 x0_6 x0_7 l8 l9 b.1 b.2.1 b.2.2.1 b.2.2.2.1 b.2.2.2.2.1 b.2.2.2.2.2.1 b.2.2.2.2.2.2.1 b.2.2.2.2.2.2.2.1 b.2.2.2.2.2.2.2.2.1 b.2.2.2.2.2.2.2.2.2.1).bind fun t => (if t = true then some true else some false)) else some false) else some false))) else (if (c.1.length : Int) = 0 then some true else some false))) (fun k => ?_) ?_
    · unfold heirloomlaw04_ObjectBack.f heirloomlaw04_small.f
      rw [if_pos hs.1]
      simp only [Option.bind_some, decide_eq_true hs.2, if_true, heirloomlaw04_no.f, heirloomlaw04_alive.f]
    · refine Ev.bind (f := fun k (c : List Int × Int) => (if c.2 = 0 then ((object_Read.f k c.1).bind fun b => ((object_Size.f k x0_0 x0_1 x0_2 x0_3 x0_4 x0_5 x0_6 x0_7).bind fun z => (if (c.1.length : Int) = z then (if b.2.2.2.2.2.2.2.2.2.2 = 0 then ((heirloomref04_Same.f k x0_0 x0_1 x0_2 x0_3 x0_4 x0_5 x0_6 x0_7 l8 l9 b.1 b.2.1 b.2.2.1 b.2.2.2.1 b.2.2.2.2.1 b.2.2.2.2.2.1 b.2.2.2.2.2.2.1 b.2.2.2.2.2.2.2.1 b.2.2.2.2.2.2.2.2.1 b.2.2.2.2.2.2.2.2.2.1).bind fun t => (if t = true then some true else some false)) else some false) else some false))) else (if (c.1.length : Int) = 0 then some true else some false))) hc ?_
      rcases cells_cases x0_0 x0_1 x0_2 x0_3 x0_4 x0_5 x0_6 x0_7 l8 l9 with ⟨hn, he⟩ | ⟨hz, hr, h6, h7, hok⟩
      · simp only [if_neg hn, he, List.length_nil]
        exact evNow _
      · rw [hz]
        simp only [if_true]
        have hlen : ([x0_0 + 16 * x0_1 + 64 * x0_2 + 512 * x0_3 + 2048 * x0_4, x0_6 + 8192 * x0_7 + 67108864 * x0_5] ++ l8 ++ flat l9).length = 2 + l8.length + 2 * l9.length := by
          simp only [List.length_append, List.length_cons, List.length_nil, flat_len]
        have hrd := oRead _ (by omega) (laid_wf hr hw8 hw9)
        rw [read_laid hr h6 h7 hok] at hrd
        refine Ev.bind (f := fun k (b : Obj8) => ((object_Size.f k x0_0 x0_1 x0_2 x0_3 x0_4 x0_5 x0_6 x0_7).bind fun z => (if (([x0_0 + 16 * x0_1 + 64 * x0_2 + 512 * x0_3 + 2048 * x0_4, x0_6 + 8192 * x0_7 + 67108864 * x0_5] ++ l8 ++ flat l9).length : Int) = z then (if b.2.2.2.2.2.2.2.2.2.2 = 0 then ((heirloomref04_Same.f k x0_0 x0_1 x0_2 x0_3 x0_4 x0_5 x0_6 x0_7 l8 l9 b.1 b.2.1 b.2.2.1 b.2.2.2.1 b.2.2.2.2.1 b.2.2.2.2.2.1 b.2.2.2.2.2.2.1 b.2.2.2.2.2.2.2.1 b.2.2.2.2.2.2.2.2.1 b.2.2.2.2.2.2.2.2.2.1).bind fun t => (if t = true then some true else some false)) else some false) else some false))) hrd ?_
        simp only [if_true]
        have hsz : Ev (fun k => object_Size.f k x0_0 x0_1 x0_2 x0_3 x0_4 x0_5 x0_6 x0_7) (sizeZ x0_0 x0_1 x0_2 x0_3 x0_4 x0_5 x0_6 x0_7) := evFrom 2 (fun m => oSize m _ _ _ _ _ _ _ _)
        refine Ev.bind (f := fun k z => (if (([x0_0 + 16 * x0_1 + 64 * x0_2 + 512 * x0_3 + 2048 * x0_4, x0_6 + 8192 * x0_7 + 67108864 * x0_5] ++ l8 ++ flat l9).length : Int) = z then ((heirloomref04_Same.f k x0_0 x0_1 x0_2 x0_3 x0_4 x0_5 x0_6 x0_7 l8 l9 x0_0 x0_1 x0_2 x0_3 x0_4 x0_5 x0_6 x0_7 l8 l9).bind fun t => (if t = true then some true else some false)) else some false)) hsz ?_
        have e : (([x0_0 + 16 * x0_1 + 64 * x0_2 + 512 * x0_3 + 2048 * x0_4, x0_6 + 8192 * x0_7 + 67108864 * x0_5] ++ l8 ++ flat l9).length : Int) = sizeZ x0_0 x0_1 x0_2 x0_3 x0_4 x0_5 x0_6 x0_7 := by
          rw [hlen]
          unfold sizeZ
          rw [if_pos hr]
          omega
        simp only [if_pos e]
        refine Ev.bind (f := fun _ t => (if t = true then some true else some false)) (same_obj x0_0 x0_1 x0_2 x0_3 x0_4 x0_5 x0_6 x0_7 l8 l9 (by omega) (by omega)) ?_
        simp only [if_true]
        exact evNow _
  · refine Ev.congr (f := fun _ => some true) (fun k => ?_) (evNow _)
    unfold heirloomlaw04_ObjectBack.f heirloomlaw04_small.f
    by_cases h8 : (l8.length : Int) ≤ 300
    · rw [if_pos h8]
      simp only [Option.bind_some, decide_eq_false (fun h9 => hs ⟨h8, h9⟩), Bool.false_eq_true, if_false, heirloomlaw04_alive.f]
    · rw [if_neg h8]
      simp only [Option.bind_some, Bool.false_eq_true, if_false, heirloomlaw04_alive.f]
end Go.Proofs.Ytepoalgoombpeaa.Pure
