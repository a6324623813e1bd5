/- PROVED: the law's Lean function is true of every object. Conditions: none. -/
import Derived.Test.YtepoalgoombpeaaCellsLib
import Derived.Test.YtepoalgoombpeaaPrintx33
import Derived.Test.YtepoalgoombpeaaPrintx34
set_option linter.unusedVariables false
set_option linter.unusedSimpArgs false
namespace Go.Proofs.Ytepoalgoombpeaa.Pure
open Go.RowKit Go.Proofs.Ytepoalgoombpeaa.Print Go.Proofs.YtepoalgoombpeaaW.PrintWords Go.Proofs.YtepoalgoombpeaaW.PrintLast
def isRef (v : S38) : Bool := (decide (4 ≤ v.f0) && decide (v.f0 ≤ 9)) && okV v
def refsOf (l : List S38) : List Int := (l.filter isRef).map (·.f1)
theorem oRefsL (l : List S38) (hl : l.length ≤ 10000) : ∀ (d i : Nat) (acc : List Int), i + d = l.length → acc.length + d < 100000 → Ev (fun k => object_Refs.l0 k acc l (l.length : Int) (i : Int)) (acc ++ refsOf (l.drop i)) := by
  intro d
  induction d with
  | zero =>
    intro i acc h0 ha
    have e : l.drop i = [] := List.drop_eq_nil_of_le (by omega)
    rw [e, show acc ++ refsOf [] = acc by simp [refsOf]]
    refine Ev.step (f := fun _ => some acc) (fun k => ?_) (evNow _)
    simp only [object_Refs.l0]
    rw [if_neg (by omega)]
  | succ d ih =>
    intro i acc h0 ha
    have hi : i < l.length := by omega
    have hw : wrap64 ((i : Int) + 1) = ((i + 1 : Nat) : Int) := by unfold wrap64; omega
    have e : l.drop i = l[i] :: l.drop (i + 1) := List.drop_eq_getElem_cons hi
    have hv : Ev (fun k => object_Value.f k l[i].f0 l[i].f1) (okV l[i]) := evFrom 1 (fun m => oValue m _ _)
    rw [e]
    by_cases hc : 4 ≤ l[i].f0 ∧ l[i].f0 ≤ 9
    · refine Ev.step (f := fun k => (object_Value.f k l[i].f0 l[i].f1).bind fun t => if t = true then object_Refs.l0 k (acc ++ [l[i].f1]) l (l.length : Int) ((i + 1 : Nat) : Int) else object_Refs.l0 k acc l (l.length : Int) ((i + 1 : Nat) : Int)) (fun k => ?_) ?_
      · simp only [object_Refs.l0]
        rw [if_pos (by omega), if_pos (by omega), if_pos (by omega), rd_val hi, hw, if_pos hc.1, if_pos hc.2]
        congr 1
        funext t
        split
        · rw [if_pos (by omega)]
        · rfl
      · refine Ev.bind (f := fun k t => if t = true then object_Refs.l0 k (acc ++ [l[i].f1]) l (l.length : Int) ((i + 1 : Nat) : Int) else object_Refs.l0 k acc l (l.length : Int) ((i + 1 : Nat) : Int)) hv ?_
        cases hok : okV l[i] with
        | true =>
          have hr : isRef l[i] = true := by simp [isRef, hc.1, hc.2, hok]
          have := ih (i + 1) (acc ++ [l[i].f1]) (by omega) (by simp; omega)
          simp only [if_true, refsOf, List.filter_cons, hr, List.map_cons, List.append_assoc, List.cons_append, List.nil_append] at this ⊢
          exact this
        | false =>
          have hr : isRef l[i] = false := by simp [isRef, hok]
          have := ih (i + 1) acc (by omega) (by omega)
          simp only [Bool.false_eq_true, if_false, refsOf, List.filter_cons, hr] at this ⊢
          exact this
    · have hr : isRef l[i] = false := by
        have : (decide (4 ≤ l[i].f0) && decide (l[i].f0 ≤ 9)) = false := by simp; omega
        simp [isRef, this]
      have := ih (i + 1) acc (by omega) (by omega)
      simp only [refsOf, List.filter_cons, hr, Bool.false_eq_true, if_false] at this ⊢
      refine Ev.step (fun k => ?_) this
      simp only [object_Refs.l0]
      rw [if_pos (by omega), if_pos (by omega), if_pos (by omega), rd_val hi, hw]
      split
      · rw [if_neg (by omega)]
      · rfl
theorem rObject (v : S38) : Ev (fun k => heirloomref04_Object.f k v.f0 v.f1) (isRef v) := by
  refine evFrom 1 (fun m => ?_)
  unfold heirloomref04_Object.f
  by_cases h4 : 4 ≤ v.f0
  · rw [if_pos h4]
    by_cases h9 : v.f0 ≤ 9
    · rw [if_pos h9, rValue]
      simp [isRef, h4, h9, okV]
    · rw [if_neg h9]
      simp [isRef, h4, h9]
  · rw [if_neg h4]
    simp [isRef, h4]
theorem rRefsL (a0 a1 a2 a3 a4 a5 a6 a7 : Int) (l8 : List Int) (l : List S38) (hl : l.length ≤ 10000) : ∀ (d i : Nat) (acc : List Int), i + d = l.length → acc.length + d < 100000 → Ev (fun k => heirloomref04_Refs.l0 k acc (i : Int) a0 a1 a2 a3 a4 a5 a6 a7 l8 l) (acc ++ refsOf (l.drop i)) := by
  intro d
  induction d with
  | zero =>
    intro i acc h0 ha
    have e : l.drop i = [] := List.drop_eq_nil_of_le (by omega)
    rw [e, show acc ++ refsOf [] = acc by simp [refsOf]]
    refine Ev.step (f := fun _ => some acc) (fun k => ?_) (evNow _)
    simp only [heirloomref04_Refs.l0]
    rw [if_neg (by omega)]
  | succ d ih =>
    intro i acc h0 ha
    have hi : i < l.length := by omega
    have hw : wrap64 ((i : Int) + 1) = ((i + 1 : Nat) : Int) := by unfold wrap64; omega
    have e : l.drop i = l[i] :: l.drop (i + 1) := List.drop_eq_getElem_cons hi
    rw [e]
    refine Ev.step (f := fun k => (heirloomref04_Object.f k l[i].f0 l[i].f1).bind fun t => if t = true then heirloomref04_Refs.l0 k (acc ++ [l[i].f1]) ((i + 1 : Nat) : Int) a0 a1 a2 a3 a4 a5 a6 a7 l8 l else heirloomref04_Refs.l0 k acc ((i + 1 : Nat) : Int) a0 a1 a2 a3 a4 a5 a6 a7 l8 l) (fun k => ?_) ?_
    · simp only [heirloomref04_Refs.l0]
      rw [if_pos (by omega), if_pos (by omega), rd_val hi, hw]
      congr 1
      funext t
      split
      · rw [if_pos (by omega)]
      · rfl
    · refine Ev.bind (f := fun k t => if t = true then heirloomref04_Refs.l0 k (acc ++ [l[i].f1]) ((i + 1 : Nat) : Int) a0 a1 a2 a3 a4 a5 a6 a7 l8 l else heirloomref04_Refs.l0 k acc ((i + 1 : Nat) : Int) a0 a1 a2 a3 a4 a5 a6 a7 l8 l) (rObject l[i]) ?_
      cases hr : isRef l[i] with
      | true =>
        have := ih (i + 1) (acc ++ [l[i].f1]) (by omega) (by simp; omega)
        simp only [if_true, refsOf, List.filter_cons, hr, List.map_cons, List.append_assoc, List.cons_append, List.nil_append] at this ⊢
        exact this
      | false =>
        have := ih (i + 1) acc (by omega) (by omega)
        simp only [Bool.false_eq_true, if_false, refsOf, List.filter_cons, hr] at this ⊢
        exact this
theorem intsL (l : List Int) (hl : l.length ≤ 1000000) : ∀ (d i : Nat), i + d = l.length → Ev (fun k => heirloomlaw03_Ints.l0 k l l (i : Int)) true := by
  intro d
  induction d with
  | zero =>
    intro i h0
    refine Ev.step (f := fun _ => some true) (fun k => ?_) (evNow _)
    simp only [heirloomlaw03_Ints.l0]
    rw [if_neg (by omega)]
  | succ d ih =>
    intro i h0
    have hw : wrap64 ((i : Int) + 1) = ((i + 1 : Nat) : Int) := by unfold wrap64; omega
    refine Ev.step (fun k => ?_) (ih (i + 1) (by omega))
    simp only [heirloomlaw03_Ints.l0]
    rw [if_pos (by omega), if_pos (by omega), if_pos (by omega), hw]
    simp
theorem ints_self (l : List Int) (hl : l.length ≤ 1000000) : Ev (fun k => heirloomlaw03_Ints.f k l l) true := by
  refine Ev.congr (fun k => ?_) (intsL l hl l.length 0 (by omega))
  unfold heirloomlaw03_Ints.f
  rw [if_pos rfl]
  rfl
theorem ObjectRefs (x0_0 x0_1 x0_2 x0_3 x0_4 x0_5 x0_6 x0_7 : Int) (w0 : ∀ a ∈ [x0_0, x0_1, x0_2, x0_3, x0_4, x0_5, x0_6, x0_7], (Lit.int .i64 a).wf = true) (l8 : List Int) (l9 : List S38) (hm8 : l8.length ≤ maxLen) (hw8 : ∀ n ∈ l8, (Lit.int .i64 n).wf = true) (hm9 : l9.length ≤ maxLen) (hw9 : ∀ v ∈ l9, (Lit.int .i64 v.f0).wf = true ∧ (Lit.int .i64 v.f1).wf = true) : ∃ k, heirloomlaw04_ObjectRefs.f k x0_0 x0_1 x0_2 x0_3 x0_4 x0_5 x0_6 x0_7 l8 l9 = some true := by
  refine evRounds ?_
  by_cases hs : (l8.length : Int) ≤ 300 ∧ (l9.length : Int) ≤ 300
  · have hlen : (refsOf l9).length ≤ l9.length := by
      unfold refsOf
      rw [List.length_map]
      exact List.length_filter_le _ _
    have hc : Ev (fun k => object_Refs.f k x0_0 x0_1 x0_2 x0_3 x0_4 x0_5 x0_6 x0_7 l8 l9) (refsOf l9) := oRefsL l9 (by omega) l9.length 0 [] (by omega) (by simp; omega)
    have hr : Ev (fun k => heirloomref04_Refs.f k x0_0 x0_1 x0_2 x0_3 x0_4 x0_5 x0_6 x0_7 l8 l9) (refsOf l9) := rRefsL x0_0 x0_1 x0_2 x0_3 x0_4 x0_5 x0_6 x0_7 l8 l9 (by omega) l9.length 0 [] (by omega) (by simp; omega)
    have hq := ints_self (refsOf l9) (by omega)
    refine Ev.congr (f := fun k => (object_Refs.f k x0_0 x0_1 x0_2 x0_3 x0_4 x0_5 x0_6 x0_7 l8 l9).bind fun bt => ((heirloomref04_Refs.f k x0_0 x0_1 x0_2 x0_3 x0_4 x0_5 x0_6 x0_7 l8 l9).bind fun bu => ((heirloomlaw03_Ints.f k bt bu).bind fun t => (if t = true then some true else some false)))) (fun k => ?_) ?_
    · unfold heirloomlaw04_ObjectRefs.f heirloomlaw04_small.f
      rw [if_pos hs.1]
      simp only [Option.bind_some, decide_eq_true hs.2, if_true, heirloomlaw04_alive.f]
    · refine Ev.bind (f := fun k bt => ((heirloomref04_Refs.f k x0_0 x0_1 x0_2 x0_3 x0_4 x0_5 x0_6 x0_7 l8 l9).bind fun bu => ((heirloomlaw03_Ints.f k bt bu).bind fun t => (if t = true then some true else some false)))) hc ?_
      refine Ev.bind (f := fun k bu => ((heirloomlaw03_Ints.f k (refsOf l9) bu).bind fun t => (if t = true then some true else some false))) hr ?_
      refine Ev.bind (f := fun _ t => (if t = true then some true else some false)) hq ?_
      simp only [if_true]
      exact evNow _
  · refine Ev.congr (f := fun _ => some true) (fun k => ?_) (evNow _)
    unfold heirloomlaw04_ObjectRefs.f heirloomlaw04_small.f
    by_cases h8 : (l8.length : Int) ≤ 300
    · rw [if_pos h8]
      simp only [Option.bind_some, decide_eq_false (fun h9 => hs ⟨h8, h9⟩), Bool.false_eq_true, if_false, heirloomlaw04_alive.f]
    · rw [if_neg h8]
      simp only [Option.bind_some, Bool.false_eq_true, if_false, heirloomlaw04_alive.f]
end Go.Proofs.Ytepoalgoombpeaa.Pure
