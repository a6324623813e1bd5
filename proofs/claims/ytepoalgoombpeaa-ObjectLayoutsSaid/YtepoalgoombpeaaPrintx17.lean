/- PROVED: each Lean function of this text answers as the Go function of its name does. Conditions: none beyond what each theorem states. (Written by the session's own program xprint.py.) -/
import Derived.Test.YtepoalgoombpeaaPrintx0
import Derived.Test.YtepoalgoombpeaaPrintx9
import Derived.Test.YtepoalgoombpeaaPrintx13
import Derived.Test.YtepoalgoombpeaaPrintx14
import Derived.Test.YtepoalgoombpeaaPrintx15
namespace Go.Proofs.Ytepoalgoombpeaa.Print
open Go.RowKit Go.Proofs.YtepoalgoombpeaaW.PrintWords Go.Proofs.YtepoalgoombpeaaW.PrintLast Go.Proofs.YtepoalgoombpeaaW.PrintMore
attribute [local go_sem] max2_int min2_int max_two min_two max_three min_three max_four min_four   -- for this text's walks alone
set_option linter.unusedVariables false
set_option linter.unusedSimpArgs false

/-! ### object_Layout: function 32 -/
theorem store_fn (P : Program) (w : World) (a : Addr) (m : Mode) (fn : Fn) (first captured : Array Value) : (store a (.func fn first captured) m).run P w = stored P w a (.func fn first captured) m := run_store P w a _ m rfl
attribute [local go_sem] store_fn
set_option maxHeartbeats 1000000 in
theorem shape_box.calls (a0 a1 a2 a3 a4 a5 a6 a7 : Int) (A8 A9 : Option Addr) (n8 c8 n9 c9 : Nat) (w : World) :
    Calls Try.prog 50 #[.agg #[.int .i64 a0, .int .i64 a1, .int .i64 a2, .int .i64 a3, .int .i64 a4, .int .i64 a5, .int .i64 a6, .int .i64 a7, .slice A8 n8 c8, .slice A9 n9 c9]] w fun e w' => e = .returned (.bool (((n8 : Int) == 0) && ((n9 : Int) == 1))) ∧ Below w.heap.size w w' := by
  by_cases h1 : (n8 : Int) = 0
  · have e1 : ((n8 : Int) == 0) = true := beq_iff_eq.2 h1
    rw [e1]
    go_enter Try.func50, Try.ntmps50
    go_wp2
    go_ret
    exact ⟨by simp, below_alloc (Below.refl _ _) _⟩
  · have e1 : ((n8 : Int) == 0) = false := beq_eq_false_iff_ne.2 h1
    rw [e1]
    go_enter Try.func50, Try.ntmps50
    go_wp2
    go_ret
    exact ⟨by simp, below_alloc (Below.refl _ _) _⟩
theorem shape_thread.calls (a0 a1 a2 a3 a4 a5 a6 a7 : Int) (A8 A9 : Option Addr) (n8 c8 n9 c9 : Nat) (w : World) :
    Calls Try.prog 51 #[.agg #[.int .i64 a0, .int .i64 a1, .int .i64 a2, .int .i64 a3, .int .i64 a4, .int .i64 a5, .int .i64 a6, .int .i64 a7, .slice A8 n8 c8, .slice A9 n9 c9]] w fun e w' => e = .returned (.bool ((n8 : Int) == 0)) ∧ Below w.heap.size w w' := by
  go_enter Try.func51, Try.ntmps51
  go_wp2
  go_ret
  exact ⟨rfl, below_alloc (Below.refl _ _) _⟩
theorem shape_proto.calls (a0 a1 a2 a3 a4 a5 a6 a7 : Int) (A8 A9 : Option Addr) (n8 c8 n9 c9 : Nat) (w : World) :
    Calls Try.prog 52 #[.agg #[.int .i64 a0, .int .i64 a1, .int .i64 a2, .int .i64 a3, .int .i64 a4, .int .i64 a5, .int .i64 a6, .int .i64 a7, .slice A8 n8 c8, .slice A9 n9 c9]] w fun e w' => e = .returned (.bool ((n8 : Int) == 1)) ∧ Below w.heap.size w w' := by
  go_enter Try.func52, Try.ntmps52
  go_wp2
  go_ret
  exact ⟨rfl, below_alloc (Below.refl _ _) _⟩
set_option maxRecDepth 100000 in
theorem object_shapes.calls (w : World) :
    Calls Try.prog 42 #[] w fun e w' => e = .returned (.slice (some ⟨w.heap.size, 0, none⟩) 6 6) ∧ w'.heap[w.heap.size]? = some (.cells #[.int .i64 4, .func (.func 47) #[] #[], .int .i64 5, .func (.func 48) #[] #[], .int .i64 6, .func (.func 49) #[] #[], .int .i64 7, .func (.func 50) #[] #[], .int .i64 8, .func (.func 51) #[] #[], .int .i64 9, .func (.func 52) #[] #[]] 69) ∧ Below w.heap.size w w' := by
  go_enter Try.func42, Try.ntmps42
  go_wp2
  go_ret
  exact ⟨rfl, by exact Array.getElem?_push_size, below_alloc (Below.refl _ _) _⟩
def shapeFits (k : Nat) (a0 a1 a2 a3 a4 a5 a6 a7 : Int) (l8 : List Int) (l9 : List S38) : Option Bool :=
  if a0 = 4 then object_str.f a0 a1 a2 a3 a4 a5 a6 a7 l8 l9
  else if a0 = 5 then object_table.f k a0 a1 a2 a3 a4 a5 a6 a7 l8 l9
  else if a0 = 6 then object_closure.f k a0 a1 a2 a3 a4 a5 a6 a7 l8 l9
  else if a0 = 7 then some (((l8.length : Int) == 0) && ((l9.length : Int) == 1))
  else if a0 = 8 then some ((l8.length : Int) == 0)
  else if a0 = 9 then some ((l8.length : Int) == 1) else none
def deadAt (K x : Int) (l : List S38) (i : Nat) : Bool := ((rd_T38 l i).f0 == 11) && !((K == 5) && (decide (x < (i : Int)) && ((i : Int) - 1 - x) % 2 == 0))
def deadZ (K x : Int) (l : List S38) : Int := if (List.range l.length).any (deadAt K x l) = true then 6 else 0
def object_Layout.f (k : Nat) (a0 a1 a2 a3 a4 a5 a6 a7 : Int) (l8 : List Int) (l9 : List S38) : Option Int :=
  (object_Cells.f k a0 a1 a2 a3 a4 a5 a6 a7 l8 l9).bind fun c => if c.2 = 0 then ((shapeFits k a0 a1 a2 a3 a4 a5 a6 a7 l8 l9).bind fun b => if b = true then (if l9.length ≤ 4096 ∧ (a0 = 5 → 0 < l8.length ∧ 0 ≤ rd l8 0 ∧ rd l8 0 ≤ 4096) then some (deadZ a0 (rd l8 0) l9) else none) else some 6) else some c.2
theorem shapeFits.mono : ∀ a0 a1 a2 a3 a4 a5 a6 a7 l8 l9 k, LeO (shapeFits k a0 a1 a2 a3 a4 a5 a6 a7 l8 l9) (shapeFits (k + 1) a0 a1 a2 a3 a4 a5 a6 a7 l8 l9) := by
  intro a0 a1 a2 a3 a4 a5 a6 a7 l8 l9 k
  unfold shapeFits
  repeat' first
    | exact object_table.mono _ _ _ _ _ _ _ _ _ _ _
    | exact object_closure.mono _ _ _ _ _ _ _ _ _ _ _
    | exact LeO.refl _
    | refine LeO.ite ?_ ?_
theorem object_Layout.mono : ∀ a0 a1 a2 a3 a4 a5 a6 a7 l8 l9 k, LeO (object_Layout.f k a0 a1 a2 a3 a4 a5 a6 a7 l8 l9) (object_Layout.f (k + 1) a0 a1 a2 a3 a4 a5 a6 a7 l8 l9) := by
  intro a0 a1 a2 a3 a4 a5 a6 a7 l8 l9 k
  unfold object_Layout.f
  refine LeO.bind (object_Cells.mono _ _ _ _ _ _ _ _ _ _ _) (fun _ => ?_)
  refine LeO.ite ?_ (LeO.refl _)
  exact LeO.bind (shapeFits.mono _ _ _ _ _ _ _ _ _ _ _) (fun _ => LeO.refl _)
set_option maxHeartbeats 2000000 in
theorem object_Layout.err (k : Nat) (a0 a1 a2 a3 a4 a5 a6 a7 : Int) (A8 : Option Addr) (c8 : Nat) (l8 : List Int) (A9 : Option Addr) (c9 : Nat) (l9 : List S38) (cs : List Int) (r : Int) (w : World) (hr8 : Kd.C (Kd.int .i64) w A8 l8.length l8) (hc8 : l8.length ≤ c8) (hr9 : Kd.C k38 w A9 l9.length l9) (hc9 : l9.length ≤ c9) (hC : object_Cells.f k a0 a1 a2 a3 a4 a5 a6 a7 l8 l9 = some (cs, r)) (hr : r ≠ 0) :
    Calls Try.prog 32 #[.agg #[.int .i64 a0, .int .i64 a1, .int .i64 a2, .int .i64 a3, .int .i64 a4, .int .i64 a5, .int .i64 a6, .int .i64 a7, .slice A8 l8.length c8, .slice A9 l9.length c9]] w fun e w' => e = .returned (.int .i64 r) ∧ Below w.heap.size w w' := by
  have hb0 : (r != 0) = true := bne_iff_ne.2 hr
  clear hr
  have HR8 := Aside0.mk hr8
  have HR9 := Aside0.mk hr9
  have HC8 := Aside0.mk hc8
  have HC9 := Aside0.mk hc9
  have HC := Aside0.mk hC
  clear hr8 hr9 hc8 hc9 hC
  go_enter Try.func32, Try.ntmps32
  go_wp2_with (go_at_call 26; (with_reducible refine (object_Cells.calls k _ _ _ _ _ _ _ _ _ _ l8 _ _ l9 cs r _ (Kd.C_below HR8.out (below_alloc (Below.refl _ _) _)) HC8.out (Kd.C_below HR9.out (below_alloc (Below.refl _ _) _)) HC9.out HC.out).mono ?_); rintro e w1 ⟨v1, rfl, hv1, hb1⟩)
  go_ret
  exact ⟨rfl, below_step (below_alloc (Below.refl _ _) _) hb1⟩
def ShapeCalls (b : Bool) (a0 : Int) (o : Value) (w : World) : Prop :=
  ∀ W : World, Below w.heap.size w W →
    (a0 = 4 → Calls Try.prog 47 #[o] W fun e W' => e = .returned (.bool b) ∧ Below W.heap.size W W') ∧
    (a0 = 5 → Calls Try.prog 48 #[o] W fun e W' => e = .returned (.bool b) ∧ Below W.heap.size W W') ∧
    (a0 = 6 → Calls Try.prog 49 #[o] W fun e W' => e = .returned (.bool b) ∧ Below W.heap.size W W') ∧
    (a0 = 7 → Calls Try.prog 50 #[o] W fun e W' => e = .returned (.bool b) ∧ Below W.heap.size W W') ∧
    (a0 = 8 → Calls Try.prog 51 #[o] W fun e W' => e = .returned (.bool b) ∧ Below W.heap.size W W') ∧
    (a0 = 9 → Calls Try.prog 52 #[o] W fun e W' => e = .returned (.bool b) ∧ Below W.heap.size W W')
theorem shapeFits.shapes (k : Nat) (a0 a1 a2 a3 a4 a5 a6 a7 : Int) (A8 : Option Addr) (c8 : Nat) (l8 : List Int) (A9 : Option Addr) (c9 : Nat) (l9 : List S38) (b : Bool) (w : World) (hr8 : Kd.C (Kd.int .i64) w A8 l8.length l8) (hc8 : l8.length ≤ c8) (hr9 : Kd.C k38 w A9 l9.length l9) (hc9 : l9.length ≤ c9) (h : shapeFits k a0 a1 a2 a3 a4 a5 a6 a7 l8 l9 = some b) :
    ShapeCalls b a0 (.agg #[.int .i64 a0, .int .i64 a1, .int .i64 a2, .int .i64 a3, .int .i64 a4, .int .i64 a5, .int .i64 a6, .int .i64 a7, .slice A8 l8.length c8, .slice A9 l9.length c9]) w := by
  intro W hW
  have h8 := Kd.C_below hr8 hW
  have h9 := Kd.C_below hr9 hW
  unfold shapeFits at h
  refine ⟨fun e => ?_, fun e => ?_, fun e => ?_, fun e => ?_, fun e => ?_, fun e => ?_⟩
  · rw [if_pos e] at h
    exact object_str.calls _ _ _ _ _ _ _ _ _ _ _ _ _ _ _ _ h8 hc8 h9 hc9 h
  · rw [if_neg (by omega), if_pos e] at h
    exact object_table.calls _ _ _ _ _ _ _ _ _ _ _ _ _ _ _ _ _ h8 hc8 h9 hc9 h
  · rw [if_neg (by omega), if_neg (by omega), if_pos e] at h
    exact object_closure.calls _ _ _ _ _ _ _ _ _ _ _ _ _ _ _ _ _ h8 hc8 h9 hc9 h
  · rw [if_neg (by omega), if_neg (by omega), if_neg (by omega), if_pos e] at h
    obtain rfl := Option.some.inj h
    exact shape_box.calls _ _ _ _ _ _ _ _ _ _ _ _ _ _ _
  · rw [if_neg (by omega), if_neg (by omega), if_neg (by omega), if_neg (by omega), if_pos e] at h
    obtain rfl := Option.some.inj h
    exact shape_thread.calls _ _ _ _ _ _ _ _ _ _ _ _ _ _ _
  · rw [if_neg (by omega), if_neg (by omega), if_neg (by omega), if_neg (by omega), if_neg (by omega), if_pos e] at h
    obtain rfl := Option.some.inj h
    exact shape_proto.calls _ _ _ _ _ _ _ _ _ _ _ _ _ _ _
theorem cell_new_any (w : World) (cs : Array Value) (t : TypeId) (j : Nat) : (w.alloc (.cells cs t)).cell? ⟨w.heap.size, j, none⟩ = cs[j]? := by
  have h : (w.alloc (.cells cs t)).heap[w.heap.size]? = some (.cells cs t) := by exact Array.getElem?_push_size
  simp only [World.cell?, h]
  rfl
theorem shapeFits.kind {k : Nat} {a0 a1 a2 a3 a4 a5 a6 a7 : Int} {l8 : List Int} {l9 : List S38} {b : Bool} (h : shapeFits k a0 a1 a2 a3 a4 a5 a6 a7 l8 l9 = some b) : 4 ≤ a0 ∧ a0 ≤ 9 := by
  unfold shapeFits at h
  by_cases h4 : a0 = 4
  · omega
  by_cases h5 : a0 = 5
  · omega
  by_cases h6 : a0 = 6
  · omega
  by_cases h7 : a0 = 7
  · omega
  by_cases h8 : a0 = 8
  · omega
  by_cases h9 : a0 = 9
  · omega
  rw [if_neg h4, if_neg h5, if_neg h6, if_neg h7, if_neg h8, if_neg h9] at h
  cases h
set_option maxHeartbeats 8000000 in
set_option maxRecDepth 100000 in
theorem object_Layout.bad (k : Nat) (a0 a1 a2 a3 a4 a5 a6 a7 : Int) (A8 : Option Addr) (c8 : Nat) (l8 : List Int) (A9 : Option Addr) (c9 : Nat) (l9 : List S38) (cs : List Int) (w : World) (hr8 : Kd.C (Kd.int .i64) w A8 l8.length l8) (hc8 : l8.length ≤ c8) (hr9 : Kd.C k38 w A9 l9.length l9) (hc9 : l9.length ≤ c9) (hC : object_Cells.f k a0 a1 a2 a3 a4 a5 a6 a7 l8 l9 = some (cs, 0)) (hS : ShapeCalls false a0 (.agg #[.int .i64 a0, .int .i64 a1, .int .i64 a2, .int .i64 a3, .int .i64 a4, .int .i64 a5, .int .i64 a6, .int .i64 a7, .slice A8 l8.length c8, .slice A9 l9.length c9]) w) (hk : 4 ≤ a0 ∧ a0 ≤ 9) :
    Calls Try.prog 32 #[.agg #[.int .i64 a0, .int .i64 a1, .int .i64 a2, .int .i64 a3, .int .i64 a4, .int .i64 a5, .int .i64 a6, .int .i64 a7, .slice A8 l8.length c8, .slice A9 l9.length c9]] w fun e w' => e = .returned (.int .i64 6) ∧ Below w.heap.size w w' := by
  have HR8 := Aside0.mk hr8
  have HR9 := Aside0.mk hr9
  have HC8 := Aside0.mk hc8
  have HC9 := Aside0.mk hc9
  have HC := Aside0.mk hC
  unfold ShapeCalls at hS
  have HS := Aside0.mk hS
  have HK := Aside0.mk hk
  clear hr8 hr9 hc8 hc9 hC hS hk
  go_enter Try.func32, Try.ntmps32
  go_wp2_with (first
    | (go_at_call 26; (with_reducible refine (object_Cells.calls k _ _ _ _ _ _ _ _ _ _ l8 _ _ l9 cs 0 _ (Kd.C_below HR8.out (below_alloc (Below.refl _ _) _)) HC8.out (Kd.C_below HR9.out (below_alloc (Below.refl _ _) _)) HC9.out HC.out).mono ?_); rintro e w1 ⟨v1, rfl, hv1, hb1⟩)
    | (go_at_call 42; (with_reducible refine (object_shapes.calls _).mono ?_); rintro e w2 ⟨rfl, hsh, hb2⟩))
  have S1 : w.heap.size + 1 ≤ w1.heap.size := by have := hb1.size; simp at this; omega
  have SW1 : Aside0 (w1.heap.size < w2.heap.size) := ⟨(Array.getElem?_eq_some_iff.1 hsh).1⟩
  have SW : Aside0 (w.heap.size < w2.heap.size) := ⟨by have := SW1.out; omega⟩
  have SL : Aside0 (w.heap.size < w1.heap.size) := ⟨by omega⟩
  have BB : Aside0 (Below w.heap.size w w2) := ⟨below_step (below_step (below_alloc (Below.refl _ _) _) hb1) hb2⟩
  have HX1 : Aside0 (∀ (j : Nat) (v : Value), (#[.int .i64 a0, .int .i64 a1, .int .i64 a2, .int .i64 a3, .int .i64 a4, .int .i64 a5, .int .i64 a6, .int .i64 a7, .slice A8 l8.length c8, .slice A9 l9.length c9] : Array Value)[j]? = some v → w2.cell? ⟨w.heap.size, j, none⟩ = some v) := ⟨fun j v hj => (hb2.cell (p := ⟨w.heap.size, j, none⟩) (by simp; omega)).trans ((hb1.cell (p := ⟨w.heap.size, j, none⟩) (by simp)).trans (by rw [← hj]; exact cell_new_any w _ 43 j))⟩
  have HSH : Aside0 (∀ (j : Nat) (v : Value), (#[.int .i64 4, .func (.func 47) #[] #[], .int .i64 5, .func (.func 48) #[] #[], .int .i64 6, .func (.func 49) #[] #[], .int .i64 7, .func (.func 50) #[] #[], .int .i64 8, .func (.func 51) #[] #[], .int .i64 9, .func (.func 52) #[] #[]] : Array Value)[j]? = some v → w2.cell? ⟨w1.heap.size, j, none⟩ = some v) := ⟨fun j v hj => by rw [← hj]; simp only [World.cell?, hsh]; rfl⟩
  clear hb1 hb2 hsh hv1 S1
  go_loopw [20] (fun i wr => ∃ q : Nat, q ≤ 6 ∧ i = .int .i64 q ∧ Aside0 (∀ j : Nat, j < q → a0 ≠ 4 + j) ∧ Aside0 (Below w2.heap.size w2 wr)) (fun i _ => 6 - (intOf i).toNat)
  case atStart => exact ⟨0, by omega, rfl, ⟨fun j hj => by omega⟩, ⟨Below.refl _ _⟩⟩
  case round =>
    obtain ⟨q, hq, rfl, HJ, HB⟩ := hrel
    by_cases hlt : q < 6
    · have hlt0 : decide ((q : Int) < 6) = true := by simp; omega
      have HZ : Aside0 (∀ (j : Nat) (v : Value), (#[.int .i64 a0, .int .i64 a1, .int .i64 a2, .int .i64 a3, .int .i64 a4, .int .i64 a5, .int .i64 a6, .int .i64 a7, .slice A8 l8.length c8, .slice A9 l9.length c9] : Array Value)[j]? = some v → ∀ o, (wr.alloc o).cell? ⟨w.heap.size, j, none⟩ = some v) := ⟨fun j v hj o => ((below_alloc (Below.refl _ _) o).cell (p := ⟨w.heap.size, j, none⟩) (Nat.lt_of_lt_of_le SW.out HB.out.size)).trans ((HB.out.cell (p := ⟨w.heap.size, j, none⟩) SW.out).trans (HX1.out j v hj))⟩
      have z0 := HZ.out 0 _ rfl
      have z1 := HZ.out 1 _ rfl
      have z2 := HZ.out 2 _ rfl
      have z3 := HZ.out 3 _ rfl
      have z4 := HZ.out 4 _ rfl
      have z5 := HZ.out 5 _ rfl
      have z6 := HZ.out 6 _ rfl
      have z7 := HZ.out 7 _ rfl
      have z8 := HZ.out 8 _ rfl
      have z9 := HZ.out 9 _ rfl
      have BR : Aside0 (∀ o, Below w.heap.size w (wr.alloc o)) := ⟨fun o => below_alloc (below_step BB.out HB.out) o⟩
      obtain rfl | rfl | rfl | rfl | rfl | rfl : q = 0 ∨ q = 1 ∨ q = 2 ∨ q = 3 ∨ q = 4 ∨ q = 5 := by omega
      · have s0 : wr.cell? ⟨w1.heap.size, 0, none⟩ = some (.int .i64 4) := (HB.out.cell (p := ⟨w1.heap.size, 0, none⟩) SW1.out).trans (HSH.out 0 _ rfl)
        have s1 : wr.cell? ⟨w1.heap.size, 1, none⟩ = some (.func (.func 47) #[] #[]) := (HB.out.cell (p := ⟨w1.heap.size, 1, none⟩) SW1.out).trans (HSH.out 1 _ rfl)
        by_cases hk : a0 = 4
        · subst hk
          go_wp2_with (go_at_call 47; (with_reducible refine ((HS.out _ (BR.out _)).1 rfl).mono ?_); rintro e w4 ⟨rfl, hb4⟩)
          go_ret
          exact ⟨rfl, below_step (BR.out _) hb4⟩
        · have hk0 : ((4 : Int) == a0) = false := by simp; omega
          go_wp2
          go_roundw
          case rel => exact ⟨1, by omega, by go_num, ⟨fun j hj => by rcases Nat.lt_succ_iff_lt_or_eq.1 hj with h | rfl; exact HJ.out j h; simpa using hk⟩, ⟨below_alloc HB.out _⟩⟩
          case measure => simp [intOf]
      · have s0 : wr.cell? ⟨w1.heap.size, 2, none⟩ = some (.int .i64 5) := (HB.out.cell (p := ⟨w1.heap.size, 2, none⟩) SW1.out).trans (HSH.out 2 _ rfl)
        have s1 : wr.cell? ⟨w1.heap.size, 3, none⟩ = some (.func (.func 48) #[] #[]) := (HB.out.cell (p := ⟨w1.heap.size, 3, none⟩) SW1.out).trans (HSH.out 3 _ rfl)
        by_cases hk : a0 = 5
        · subst hk
          go_wp2_with (go_at_call 48; (with_reducible refine ((HS.out _ (BR.out _)).2.1 rfl).mono ?_); rintro e w4 ⟨rfl, hb4⟩)
          go_ret
          exact ⟨rfl, below_step (BR.out _) hb4⟩
        · have hk0 : ((5 : Int) == a0) = false := by simp; omega
          go_wp2
          go_roundw
          case rel => exact ⟨2, by omega, by go_num, ⟨fun j hj => by rcases Nat.lt_succ_iff_lt_or_eq.1 hj with h | rfl; exact HJ.out j h; simpa using hk⟩, ⟨below_alloc HB.out _⟩⟩
          case measure => simp [intOf]
      · have s0 : wr.cell? ⟨w1.heap.size, 4, none⟩ = some (.int .i64 6) := (HB.out.cell (p := ⟨w1.heap.size, 4, none⟩) SW1.out).trans (HSH.out 4 _ rfl)
        have s1 : wr.cell? ⟨w1.heap.size, 5, none⟩ = some (.func (.func 49) #[] #[]) := (HB.out.cell (p := ⟨w1.heap.size, 5, none⟩) SW1.out).trans (HSH.out 5 _ rfl)
        by_cases hk : a0 = 6
        · subst hk
          go_wp2_with (go_at_call 49; (with_reducible refine ((HS.out _ (BR.out _)).2.2.1 rfl).mono ?_); rintro e w4 ⟨rfl, hb4⟩)
          go_ret
          exact ⟨rfl, below_step (BR.out _) hb4⟩
        · have hk0 : ((6 : Int) == a0) = false := by simp; omega
          go_wp2
          go_roundw
          case rel => exact ⟨3, by omega, by go_num, ⟨fun j hj => by rcases Nat.lt_succ_iff_lt_or_eq.1 hj with h | rfl; exact HJ.out j h; simpa using hk⟩, ⟨below_alloc HB.out _⟩⟩
          case measure => simp [intOf]
      · have s0 : wr.cell? ⟨w1.heap.size, 6, none⟩ = some (.int .i64 7) := (HB.out.cell (p := ⟨w1.heap.size, 6, none⟩) SW1.out).trans (HSH.out 6 _ rfl)
        have s1 : wr.cell? ⟨w1.heap.size, 7, none⟩ = some (.func (.func 50) #[] #[]) := (HB.out.cell (p := ⟨w1.heap.size, 7, none⟩) SW1.out).trans (HSH.out 7 _ rfl)
        by_cases hk : a0 = 7
        · subst hk
          go_wp2_with (go_at_call 50; (with_reducible refine ((HS.out _ (BR.out _)).2.2.2.1 rfl).mono ?_); rintro e w4 ⟨rfl, hb4⟩)
          go_ret
          exact ⟨rfl, below_step (BR.out _) hb4⟩
        · have hk0 : ((7 : Int) == a0) = false := by simp; omega
          go_wp2
          go_roundw
          case rel => exact ⟨4, by omega, by go_num, ⟨fun j hj => by rcases Nat.lt_succ_iff_lt_or_eq.1 hj with h | rfl; exact HJ.out j h; simpa using hk⟩, ⟨below_alloc HB.out _⟩⟩
          case measure => simp [intOf]
      · have s0 : wr.cell? ⟨w1.heap.size, 8, none⟩ = some (.int .i64 8) := (HB.out.cell (p := ⟨w1.heap.size, 8, none⟩) SW1.out).trans (HSH.out 8 _ rfl)
        have s1 : wr.cell? ⟨w1.heap.size, 9, none⟩ = some (.func (.func 51) #[] #[]) := (HB.out.cell (p := ⟨w1.heap.size, 9, none⟩) SW1.out).trans (HSH.out 9 _ rfl)
        by_cases hk : a0 = 8
        · subst hk
          go_wp2_with (go_at_call 51; (with_reducible refine ((HS.out _ (BR.out _)).2.2.2.2.1 rfl).mono ?_); rintro e w4 ⟨rfl, hb4⟩)
          go_ret
          exact ⟨rfl, below_step (BR.out _) hb4⟩
        · have hk0 : ((8 : Int) == a0) = false := by simp; omega
          go_wp2
          go_roundw
          case rel => exact ⟨5, by omega, by go_num, ⟨fun j hj => by rcases Nat.lt_succ_iff_lt_or_eq.1 hj with h | rfl; exact HJ.out j h; simpa using hk⟩, ⟨below_alloc HB.out _⟩⟩
          case measure => simp [intOf]
      · have s0 : wr.cell? ⟨w1.heap.size, 10, none⟩ = some (.int .i64 9) := (HB.out.cell (p := ⟨w1.heap.size, 10, none⟩) SW1.out).trans (HSH.out 10 _ rfl)
        have s1 : wr.cell? ⟨w1.heap.size, 11, none⟩ = some (.func (.func 52) #[] #[]) := (HB.out.cell (p := ⟨w1.heap.size, 11, none⟩) SW1.out).trans (HSH.out 11 _ rfl)
        by_cases hk : a0 = 9
        · subst hk
          go_wp2_with (go_at_call 52; (with_reducible refine ((HS.out _ (BR.out _)).2.2.2.2.2 rfl).mono ?_); rintro e w4 ⟨rfl, hb4⟩)
          go_ret
          exact ⟨rfl, below_step (BR.out _) hb4⟩
        · have hk0 : ((9 : Int) == a0) = false := by simp; omega
          go_wp2
          go_roundw
          case rel => exact ⟨6, by omega, by go_num, ⟨fun j hj => by rcases Nat.lt_succ_iff_lt_or_eq.1 hj with h | rfl; exact HJ.out j h; simpa using hk⟩, ⟨below_alloc HB.out _⟩⟩
          case measure => simp [intOf]
    · obtain rfl : q = 6 := by omega
      exact absurd HK.out (fun hk => by
        have h0 := HJ.out 0 (by omega)
        have h1 := HJ.out 1 (by omega)
        have h2 := HJ.out 2 (by omega)
        have h3 := HJ.out 3 (by omega)
        have h4 := HJ.out 4 (by omega)
        have h5 := HJ.out 5 (by omega)
        omega)
theorem deadZ.six {K x : Int} {l : List S38} {p : Nat} (hp : p < l.length) (h : deadAt K x l p = true) : deadZ K x l = 6 := by
  unfold deadZ
  rw [if_pos (List.any_eq_true.2 ⟨p, List.mem_range.2 hp, h⟩)]
theorem deadZ.zero {K x : Int} {l : List S38} (h : ∀ j : Nat, j < l.length → deadAt K x l j = false) : deadZ K x l = 0 := by
  unfold deadZ
  rw [if_neg]
  intro hh
  obtain ⟨p, hp, hd⟩ := List.any_eq_true.1 hh
  rw [h p (List.mem_range.1 hp)] at hd
  cases hd
set_option maxHeartbeats 8000000 in
set_option maxRecDepth 100000 in
theorem object_Layout.good5 (k : Nat) (a0 a1 a2 a3 a4 a5 a6 a7 : Int) (A8 : Option Addr) (c8 : Nat) (l8 : List Int) (A9 : Option Addr) (c9 : Nat) (l9 : List S38) (cs : List Int) (w : World) (hr8 : Kd.C (Kd.int .i64) w A8 l8.length l8) (hc8 : l8.length ≤ c8) (hr9 : Kd.C k38 w A9 l9.length l9) (hc9 : l9.length ≤ c9) (hC : object_Cells.f k a0 a1 a2 a3 a4 a5 a6 a7 l8 l9 = some (cs, 0)) (hS : ShapeCalls true a0 (.agg #[.int .i64 a0, .int .i64 a1, .int .i64 a2, .int .i64 a3, .int .i64 a4, .int .i64 a5, .int .i64 a6, .int .i64 a7, .slice A8 l8.length c8, .slice A9 l9.length c9]) w) (h5a : a0 = 5) (hl : l9.length ≤ 4096) (hx : a0 = 5 → 0 < l8.length ∧ 0 ≤ rd l8 0 ∧ rd l8 0 ≤ 4096) :
    Calls Try.prog 32 #[.agg #[.int .i64 a0, .int .i64 a1, .int .i64 a2, .int .i64 a3, .int .i64 a4, .int .i64 a5, .int .i64 a6, .int .i64 a7, .slice A8 l8.length c8, .slice A9 l9.length c9]] w fun e w' => e = .returned (.int .i64 (deadZ a0 (rd l8 0) l9)) ∧ Below w.heap.size w w' := by
  subst h5a
  obtain ⟨x, hxx⟩ : ∃ x, x = rd l8 0 := ⟨_, rfl⟩
  obtain ⟨r, hrr⟩ : ∃ r, r = deadZ 5 x l9 := ⟨_, rfl⟩
  rw [← hxx] at hx ⊢
  rw [← hrr]
  have HXX := Aside0.mk hxx
  have HRR := Aside0.mk hrr
  have HL := Aside0.mk hl
  have HX := Aside0.mk (hx rfl)
  clear hxx hrr hl hx
  have HR8 := Aside0.mk hr8
  have HR9 := Aside0.mk hr9
  have HC8 := Aside0.mk hc8
  have HC9 := Aside0.mk hc9
  have HC := Aside0.mk hC
  have HS := Aside0.mk (fun (W : World) (hW : Below w.heap.size w W) => (hS W hW).2.1 rfl)
  clear hr8 hr9 hc8 hc9 hC hS
  go_enter Try.func32, Try.ntmps32
  go_wp2_with (first
    | (go_at_call 26; (with_reducible refine (object_Cells.calls k _ _ _ _ _ _ _ _ _ _ l8 _ _ l9 cs 0 _ (Kd.C_below HR8.out (below_alloc (Below.refl _ _) _)) HC8.out (Kd.C_below HR9.out (below_alloc (Below.refl _ _) _)) HC9.out HC.out).mono ?_); rintro e w1 ⟨v1, rfl, hv1, hb1⟩)
    | (go_at_call 42; (with_reducible refine (object_shapes.calls _).mono ?_); rintro e w2 ⟨rfl, hsh, hb2⟩))
  have S1 : w.heap.size + 1 ≤ w1.heap.size := by have := hb1.size; simp at this; omega
  have SW1 : Aside0 (w1.heap.size < w2.heap.size) := ⟨(Array.getElem?_eq_some_iff.1 hsh).1⟩
  have SW : Aside0 (w.heap.size < w2.heap.size) := ⟨by have := SW1.out; omega⟩
  have SL : Aside0 (w.heap.size < w1.heap.size) := ⟨by omega⟩
  have BB : Aside0 (Below w.heap.size w w2) := ⟨below_step (below_step (below_alloc (Below.refl _ _) _) hb1) hb2⟩
  have HX1 : Aside0 (∀ (j : Nat) (v : Value), (#[.int .i64 5, .int .i64 a1, .int .i64 a2, .int .i64 a3, .int .i64 a4, .int .i64 a5, .int .i64 a6, .int .i64 a7, .slice A8 l8.length c8, .slice A9 l9.length c9] : Array Value)[j]? = some v → w2.cell? ⟨w.heap.size, j, none⟩ = some v) := ⟨fun j v hj => (hb2.cell (p := ⟨w.heap.size, j, none⟩) (by simp; omega)).trans ((hb1.cell (p := ⟨w.heap.size, j, none⟩) (by simp)).trans (by rw [← hj]; exact cell_new_any w _ 43 j))⟩
  have HSH : Aside0 (∀ (j : Nat) (v : Value), (#[.int .i64 4, .func (.func 47) #[] #[], .int .i64 5, .func (.func 48) #[] #[], .int .i64 6, .func (.func 49) #[] #[], .int .i64 7, .func (.func 50) #[] #[], .int .i64 8, .func (.func 51) #[] #[], .int .i64 9, .func (.func 52) #[] #[]] : Array Value)[j]? = some v → w2.cell? ⟨w1.heap.size, j, none⟩ = some v) := ⟨fun j v hj => by rw [← hj]; simp only [World.cell?, hsh]; rfl⟩
  clear hb1 hb2 hsh hv1 S1
  go_loopw [20] (fun i wr => ∃ q : Nat, q ≤ 6 ∧ i = .int .i64 q ∧ Aside0 (Below w2.heap.size w2 wr)) (fun i _ => 6 - (intOf i).toNat)
  case atStart => exact ⟨0, by omega, rfl, ⟨Below.refl _ _⟩⟩
  case round =>
    obtain ⟨q, hq, rfl, HB⟩ := hrel
    by_cases hlt : q < 6
    · have hlt0 : decide ((q : Int) < 6) = true := by simp; omega
      have HZ : Aside0 (∀ (j : Nat) (v : Value), (#[.int .i64 5, .int .i64 a1, .int .i64 a2, .int .i64 a3, .int .i64 a4, .int .i64 a5, .int .i64 a6, .int .i64 a7, .slice A8 l8.length c8, .slice A9 l9.length c9] : Array Value)[j]? = some v → ∀ o, (wr.alloc o).cell? ⟨w.heap.size, j, none⟩ = some v) := ⟨fun j v hj o => ((below_alloc (Below.refl _ _) o).cell (p := ⟨w.heap.size, j, none⟩) (Nat.lt_of_lt_of_le SW.out HB.out.size)).trans ((HB.out.cell (p := ⟨w.heap.size, j, none⟩) SW.out).trans (HX1.out j v hj))⟩
      have z0 := HZ.out 0 _ rfl
      have z1 := HZ.out 1 _ rfl
      have z2 := HZ.out 2 _ rfl
      have z3 := HZ.out 3 _ rfl
      have z4 := HZ.out 4 _ rfl
      have z5 := HZ.out 5 _ rfl
      have z6 := HZ.out 6 _ rfl
      have z7 := HZ.out 7 _ rfl
      have z8 := HZ.out 8 _ rfl
      have z9 := HZ.out 9 _ rfl
      have BR : Aside0 (∀ o, Below w.heap.size w (wr.alloc o)) := ⟨fun o => below_alloc (below_step BB.out HB.out) o⟩
      obtain rfl | rfl | rfl | rfl | rfl | rfl : q = 0 ∨ q = 1 ∨ q = 2 ∨ q = 3 ∨ q = 4 ∨ q = 5 := by omega
      · have s0 : wr.cell? ⟨w1.heap.size, 0, none⟩ = some (.int .i64 4) := (HB.out.cell (p := ⟨w1.heap.size, 0, none⟩) SW1.out).trans (HSH.out 0 _ rfl)
        have s1 : wr.cell? ⟨w1.heap.size, 1, none⟩ = some (.func (.func 47) #[] #[]) := (HB.out.cell (p := ⟨w1.heap.size, 1, none⟩) SW1.out).trans (HSH.out 1 _ rfl)
        have hk0 : ((4 : Int) == 5) = false := by decide
        go_wp2
        go_roundw
        case rel => exact ⟨1, by omega, by go_num, ⟨below_alloc HB.out _⟩⟩
        case measure => simp [intOf]
      · have s0 : wr.cell? ⟨w1.heap.size, 2, none⟩ = some (.int .i64 5) := (HB.out.cell (p := ⟨w1.heap.size, 2, none⟩) SW1.out).trans (HSH.out 2 _ rfl)
        have s1 : wr.cell? ⟨w1.heap.size, 3, none⟩ = some (.func (.func 48) #[] #[]) := (HB.out.cell (p := ⟨w1.heap.size, 3, none⟩) SW1.out).trans (HSH.out 3 _ rfl)
        go_wp2_with (go_at_call 48; (with_reducible refine (HS.out _ (BR.out _)).mono ?_); rintro e w4 ⟨rfl, hb4⟩)
        go_roundw
        case rel => exact ⟨2, by omega, by go_num, ⟨below_step (below_alloc HB.out _) hb4⟩⟩
        case measure => simp [intOf]
      · have s0 : wr.cell? ⟨w1.heap.size, 4, none⟩ = some (.int .i64 6) := (HB.out.cell (p := ⟨w1.heap.size, 4, none⟩) SW1.out).trans (HSH.out 4 _ rfl)
        have s1 : wr.cell? ⟨w1.heap.size, 5, none⟩ = some (.func (.func 49) #[] #[]) := (HB.out.cell (p := ⟨w1.heap.size, 5, none⟩) SW1.out).trans (HSH.out 5 _ rfl)
        have hk0 : ((6 : Int) == 5) = false := by decide
        go_wp2
        go_roundw
        case rel => exact ⟨3, by omega, by go_num, ⟨below_alloc HB.out _⟩⟩
        case measure => simp [intOf]
      · have s0 : wr.cell? ⟨w1.heap.size, 6, none⟩ = some (.int .i64 7) := (HB.out.cell (p := ⟨w1.heap.size, 6, none⟩) SW1.out).trans (HSH.out 6 _ rfl)
        have s1 : wr.cell? ⟨w1.heap.size, 7, none⟩ = some (.func (.func 50) #[] #[]) := (HB.out.cell (p := ⟨w1.heap.size, 7, none⟩) SW1.out).trans (HSH.out 7 _ rfl)
        have hk0 : ((7 : Int) == 5) = false := by decide
        go_wp2
        go_roundw
        case rel => exact ⟨4, by omega, by go_num, ⟨below_alloc HB.out _⟩⟩
        case measure => simp [intOf]
      · have s0 : wr.cell? ⟨w1.heap.size, 8, none⟩ = some (.int .i64 8) := (HB.out.cell (p := ⟨w1.heap.size, 8, none⟩) SW1.out).trans (HSH.out 8 _ rfl)
        have s1 : wr.cell? ⟨w1.heap.size, 9, none⟩ = some (.func (.func 51) #[] #[]) := (HB.out.cell (p := ⟨w1.heap.size, 9, none⟩) SW1.out).trans (HSH.out 9 _ rfl)
        have hk0 : ((8 : Int) == 5) = false := by decide
        go_wp2
        go_roundw
        case rel => exact ⟨5, by omega, by go_num, ⟨below_alloc HB.out _⟩⟩
        case measure => simp [intOf]
      · have s0 : wr.cell? ⟨w1.heap.size, 10, none⟩ = some (.int .i64 9) := (HB.out.cell (p := ⟨w1.heap.size, 10, none⟩) SW1.out).trans (HSH.out 10 _ rfl)
        have s1 : wr.cell? ⟨w1.heap.size, 11, none⟩ = some (.func (.func 52) #[] #[]) := (HB.out.cell (p := ⟨w1.heap.size, 11, none⟩) SW1.out).trans (HSH.out 11 _ rfl)
        have hk0 : ((9 : Int) == 5) = false := by decide
        go_wp2
        go_roundw
        case rel => exact ⟨6, by omega, by go_num, ⟨below_alloc HB.out _⟩⟩
        case measure => simp [intOf]
    · obtain rfl : q = 6 := by omega
      have HY : Aside0 (∀ (j : Nat) (v : Value), (#[.int .i64 5, .int .i64 a1, .int .i64 a2, .int .i64 a3, .int .i64 a4, .int .i64 a5, .int .i64 a6, .int .i64 a7, .slice A8 l8.length c8, .slice A9 l9.length c9] : Array Value)[j]? = some v → wr.cell? ⟨w.heap.size, j, none⟩ = some v) := ⟨fun j v hj => (HB.out.cell (p := ⟨w.heap.size, j, none⟩) SW.out).trans (HX1.out j v hj)⟩
      have y0 := HY.out 0 _ rfl
      have y8 := HY.out 8 _ rfl
      have y9 := HY.out 9 _ rfl
      go_wp2
      go_loopw [41] (fun i wr => ∃ p : Nat, p ≤ l9.length ∧ i = .int .i64 p ∧ Aside0 (∀ j : Nat, j < p → deadAt 5 x l9 j = false) ∧ Aside0 (Below w2.heap.size w2 wr)) (fun i _ => l9.length - (intOf i).toNat)
      case atStart => exact ⟨0, by omega, rfl, ⟨fun j hj => by omega⟩, HB⟩
      case round =>
        clear HY y0 y8 y9 HB
        obtain ⟨p, hp, rfl, HJ, HB2⟩ := hrel
        by_cases hlt2 : p < l9.length
        · have hlt3 : decide ((p : Int) < (l9.length : Int)) = true := by simp; omega
          have HZ : Aside0 (∀ (j : Nat) (v : Value), (#[.int .i64 5, .int .i64 a1, .int .i64 a2, .int .i64 a3, .int .i64 a4, .int .i64 a5, .int .i64 a6, .int .i64 a7, .slice A8 l8.length c8, .slice A9 l9.length c9] : Array Value)[j]? = some v → ∀ o, (wr.alloc o).cell? ⟨w.heap.size, j, none⟩ = some v) := ⟨fun j v hj o => ((below_alloc (Below.refl _ _) o).cell (p := ⟨w.heap.size, j, none⟩) (Nat.lt_of_lt_of_le SW.out HB2.out.size)).trans ((HB2.out.cell (p := ⟨w.heap.size, j, none⟩) SW.out).trans (HX1.out j v hj))⟩
          have z0 := HZ.out 0 _ rfl
          have z8 := HZ.out 8 _ rfl
          obtain ⟨ad, e9, hx0, hx1⟩ := at_T38 HR9.out (p : Int) (by omega) (by omega)
          cases e9
          replace hx0 := ((below_step BB.out HB2.out).cell (World.block_lt_of_cell? w _ hx0)).trans hx0
          replace hx1 := ((below_step BB.out HB2.out).cell (World.block_lt_of_cell? w _ hx1)).trans hx1
          simp only [Int.toNat_natCast] at hx0 hx1
          have HP := Aside0.mk hlt2
          have HLP : Aside0 (p ≤ 4096) := ⟨by have := HL.out; omega⟩
          obtain ⟨f0, hf0⟩ : ∃ f0, f0 = (rd_T38 l9 p).f0 := ⟨_, rfl⟩
          obtain ⟨f1, hf1⟩ : ∃ f1, f1 = (rd_T38 l9 p).f1 := ⟨_, rfl⟩
          rw [← hf0] at hx0
          rw [← hf1] at hx1
          have HF := Aside0.mk hf0
          clear hf0 hf1
          have hwp : wrap64 ((p : Int) + 1) = ((p + 1 : Nat) : Int) := by have := HLP.out; unfold wrap64; omega
          obtain ⟨d, hd⟩ : ∃ d, d = (f0 == 11) := ⟨_, rfl⟩
          have hd2 : (f0 == 11) = d := hd.symm
          obtain ⟨h80, hx8, hx9⟩ := HX.out
          obtain ⟨ad8, e8, hy⟩ := Kd.at_int HR8.out 0 (by omega) (by omega)
          cases e8
          replace hy := ((below_step BB.out HB2.out).cell (World.block_lt_of_cell? w _ hy)).trans hy
          rw [← HXX.out] at hy
          have HYA : Aside0 (∀ o, (wr.alloc o).cell? (ad8.add 0) = some (.int .i64 x)) := ⟨fun o => ((below_alloc (Below.refl _ _) o).cell (World.block_lt_of_cell? wr _ hy)).trans hy⟩
          have hya := HYA.out
          have hyb : ∀ o, (wr.alloc o).cell? ad8 = some (.int .i64 x) := (by cases ad8; rfl : ad8.add 0 = ad8) ▸ hya
          have hl0 : decide ((0 : Int) < (l8.length : Int)) = true := by simp; omega
          have hl1 : decide (0 < l8.length) = true := by simp; omega
          have h50 : ((5 : Int) == 5) = true := rfl
          by_cases hqx : x < (p : Int)
          · have hq0 : decide (x < (p : Int)) = true := by simp; omega
            have hw1 : wrap64 ((p : Int) - 1) = (p : Int) - 1 := by have := HLP.out; unfold wrap64; omega
            obtain ⟨y, hy0⟩ : ∃ y, y = (p : Int) - 1 - x := ⟨_, rfl⟩
            have hw2 : wrap64 ((p : Int) - 1 - x) = y := by have := HLP.out; unfold wrap64; omega
            have ht : Int.tmod y 2 = y % 2 := Int.tmod_eq_emod_of_nonneg (by omega)
            have HD : Aside0 (deadAt 5 x l9 p = (d && !((wrap64 ((p : Int) - 1 - x)).tmod 2 == 0))) := ⟨by unfold deadAt; rw [← HF.out, hd2, hq0, hw2, ht, hy0]; simp⟩
            clear hqx hx8 hx9 hd hw2 ht hy0 y
            cases d
            · go_wp2
              go_roundw
              case rel => exact ⟨p + 1, HP.out, (by rw [hwp]), ⟨fun j hj => by rcases Nat.lt_succ_iff_lt_or_eq.1 hj with h | rfl; exact HJ.out j h; exact HD.out⟩, ⟨below_alloc HB2.out _⟩⟩
              case measure => rw [hwp]; exact Nat.sub_lt_sub_left HP.out (Nat.lt_succ_self p)
            · go_wp2
              · rename_i hc
                replace HD : Aside0 (deadAt 5 x l9 p = true) := ⟨by rw [HD.out, hc]; rfl⟩
                go_ret
                exact ⟨by rw [HRR.out, deadZ.six HP.out HD.out]; rfl, below_alloc (below_step BB.out HB2.out) _⟩
              · rename_i hc
                replace HD : Aside0 (deadAt 5 x l9 p = false) := ⟨by rw [HD.out, hc]; rfl⟩
                go_roundw
                case rel => exact ⟨p + 1, HP.out, (by rw [hwp]), ⟨fun j hj => by rcases Nat.lt_succ_iff_lt_or_eq.1 hj with h | rfl; exact HJ.out j h; exact HD.out⟩, ⟨below_alloc HB2.out _⟩⟩
                case measure => rw [hwp]; exact Nat.sub_lt_sub_left HP.out (Nat.lt_succ_self p)
          · have hq0 : decide (x < (p : Int)) = false := by simp; omega
            have HD : Aside0 (deadAt 5 x l9 p = d) := ⟨by unfold deadAt; rw [← HF.out, hd2, hq0]; simp⟩
            clear hqx hx8 hx9 hd
            cases d
            · go_wp2
              go_roundw
              case rel => exact ⟨p + 1, HP.out, (by rw [hwp]), ⟨fun j hj => by rcases Nat.lt_succ_iff_lt_or_eq.1 hj with h | rfl; exact HJ.out j h; exact HD.out⟩, ⟨below_alloc HB2.out _⟩⟩
              case measure => rw [hwp]; exact Nat.sub_lt_sub_left HP.out (Nat.lt_succ_self p)
            · go_wp2
              go_ret
              exact ⟨by rw [HRR.out, deadZ.six HP.out HD.out]; rfl, below_alloc (below_step BB.out HB2.out) _⟩
        · obtain rfl : p = l9.length := by omega
          have hlt3 : decide ((l9.length : Int) < (l9.length : Int)) = false := by simp
          go_wp2
          go_ret
          exact ⟨by rw [HRR.out, deadZ.zero HJ.out]; rfl, below_step BB.out HB2.out⟩
set_option maxHeartbeats 8000000 in
set_option maxRecDepth 100000 in
theorem object_Layout.goodN (k : Nat) (a0 a1 a2 a3 a4 a5 a6 a7 : Int) (A8 : Option Addr) (c8 : Nat) (l8 : List Int) (A9 : Option Addr) (c9 : Nat) (l9 : List S38) (cs : List Int) (w : World) (hr8 : Kd.C (Kd.int .i64) w A8 l8.length l8) (hc8 : l8.length ≤ c8) (hr9 : Kd.C k38 w A9 l9.length l9) (hc9 : l9.length ≤ c9) (hC : object_Cells.f k a0 a1 a2 a3 a4 a5 a6 a7 l8 l9 = some (cs, 0)) (hS : ShapeCalls true a0 (.agg #[.int .i64 a0, .int .i64 a1, .int .i64 a2, .int .i64 a3, .int .i64 a4, .int .i64 a5, .int .i64 a6, .int .i64 a7, .slice A8 l8.length c8, .slice A9 l9.length c9]) w) (h5 : a0 ≠ 5) (hl : l9.length ≤ 4096) (hx : a0 = 5 → 0 < l8.length ∧ 0 ≤ rd l8 0 ∧ rd l8 0 ≤ 4096) :
    Calls Try.prog 32 #[.agg #[.int .i64 a0, .int .i64 a1, .int .i64 a2, .int .i64 a3, .int .i64 a4, .int .i64 a5, .int .i64 a6, .int .i64 a7, .slice A8 l8.length c8, .slice A9 l9.length c9]] w fun e w' => e = .returned (.int .i64 (deadZ a0 (rd l8 0) l9)) ∧ Below w.heap.size w w' := by
  obtain ⟨x, hxx⟩ : ∃ x, x = rd l8 0 := ⟨_, rfl⟩
  obtain ⟨r, hrr⟩ : ∃ r, r = deadZ a0 x l9 := ⟨_, rfl⟩
  rw [← hxx] at hx ⊢
  rw [← hrr]
  have HXX := Aside0.mk hxx
  have HRR := Aside0.mk hrr
  have HL := Aside0.mk hl
  have HX := Aside0.mk hx
  have H5 := Aside0.mk h5
  clear hxx hrr hl hx h5
  have HR8 := Aside0.mk hr8
  have HR9 := Aside0.mk hr9
  have HC8 := Aside0.mk hc8
  have HC9 := Aside0.mk hc9
  have HC := Aside0.mk hC
  unfold ShapeCalls at hS
  have HS := Aside0.mk hS
  clear hr8 hr9 hc8 hc9 hC hS
  go_enter Try.func32, Try.ntmps32
  go_wp2_with (first
    | (go_at_call 26; (with_reducible refine (object_Cells.calls k _ _ _ _ _ _ _ _ _ _ l8 _ _ l9 cs 0 _ (Kd.C_below HR8.out (below_alloc (Below.refl _ _) _)) HC8.out (Kd.C_below HR9.out (below_alloc (Below.refl _ _) _)) HC9.out HC.out).mono ?_); rintro e w1 ⟨v1, rfl, hv1, hb1⟩)
    | (go_at_call 42; (with_reducible refine (object_shapes.calls _).mono ?_); rintro e w2 ⟨rfl, hsh, hb2⟩))
  have S1 : w.heap.size + 1 ≤ w1.heap.size := by have := hb1.size; simp at this; omega
  have SW1 : Aside0 (w1.heap.size < w2.heap.size) := ⟨(Array.getElem?_eq_some_iff.1 hsh).1⟩
  have SW : Aside0 (w.heap.size < w2.heap.size) := ⟨by have := SW1.out; omega⟩
  have SL : Aside0 (w.heap.size < w1.heap.size) := ⟨by omega⟩
  have BB : Aside0 (Below w.heap.size w w2) := ⟨below_step (below_step (below_alloc (Below.refl _ _) _) hb1) hb2⟩
  have HX1 : Aside0 (∀ (j : Nat) (v : Value), (#[.int .i64 a0, .int .i64 a1, .int .i64 a2, .int .i64 a3, .int .i64 a4, .int .i64 a5, .int .i64 a6, .int .i64 a7, .slice A8 l8.length c8, .slice A9 l9.length c9] : Array Value)[j]? = some v → w2.cell? ⟨w.heap.size, j, none⟩ = some v) := ⟨fun j v hj => (hb2.cell (p := ⟨w.heap.size, j, none⟩) (by simp; omega)).trans ((hb1.cell (p := ⟨w.heap.size, j, none⟩) (by simp)).trans (by rw [← hj]; exact cell_new_any w _ 43 j))⟩
  have HSH : Aside0 (∀ (j : Nat) (v : Value), (#[.int .i64 4, .func (.func 47) #[] #[], .int .i64 5, .func (.func 48) #[] #[], .int .i64 6, .func (.func 49) #[] #[], .int .i64 7, .func (.func 50) #[] #[], .int .i64 8, .func (.func 51) #[] #[], .int .i64 9, .func (.func 52) #[] #[]] : Array Value)[j]? = some v → w2.cell? ⟨w1.heap.size, j, none⟩ = some v) := ⟨fun j v hj => by rw [← hj]; simp only [World.cell?, hsh]; rfl⟩
  clear hb1 hb2 hsh hv1 S1
  go_loopw [20] (fun i wr => ∃ q : Nat, q ≤ 6 ∧ i = .int .i64 q ∧ Aside0 (Below w2.heap.size w2 wr)) (fun i _ => 6 - (intOf i).toNat)
  case atStart => exact ⟨0, by omega, rfl, ⟨Below.refl _ _⟩⟩
  case round =>
    obtain ⟨q, hq, rfl, HB⟩ := hrel
    by_cases hlt : q < 6
    · have hlt0 : decide ((q : Int) < 6) = true := by simp; omega
      have HZ : Aside0 (∀ (j : Nat) (v : Value), (#[.int .i64 a0, .int .i64 a1, .int .i64 a2, .int .i64 a3, .int .i64 a4, .int .i64 a5, .int .i64 a6, .int .i64 a7, .slice A8 l8.length c8, .slice A9 l9.length c9] : Array Value)[j]? = some v → ∀ o, (wr.alloc o).cell? ⟨w.heap.size, j, none⟩ = some v) := ⟨fun j v hj o => ((below_alloc (Below.refl _ _) o).cell (p := ⟨w.heap.size, j, none⟩) (Nat.lt_of_lt_of_le SW.out HB.out.size)).trans ((HB.out.cell (p := ⟨w.heap.size, j, none⟩) SW.out).trans (HX1.out j v hj))⟩
      have z0 := HZ.out 0 _ rfl
      have z1 := HZ.out 1 _ rfl
      have z2 := HZ.out 2 _ rfl
      have z3 := HZ.out 3 _ rfl
      have z4 := HZ.out 4 _ rfl
      have z5 := HZ.out 5 _ rfl
      have z6 := HZ.out 6 _ rfl
      have z7 := HZ.out 7 _ rfl
      have z8 := HZ.out 8 _ rfl
      have z9 := HZ.out 9 _ rfl
      have BR : Aside0 (∀ o, Below w.heap.size w (wr.alloc o)) := ⟨fun o => below_alloc (below_step BB.out HB.out) o⟩
      obtain rfl | rfl | rfl | rfl | rfl | rfl : q = 0 ∨ q = 1 ∨ q = 2 ∨ q = 3 ∨ q = 4 ∨ q = 5 := by omega
      · have s0 : wr.cell? ⟨w1.heap.size, 0, none⟩ = some (.int .i64 4) := (HB.out.cell (p := ⟨w1.heap.size, 0, none⟩) SW1.out).trans (HSH.out 0 _ rfl)
        have s1 : wr.cell? ⟨w1.heap.size, 1, none⟩ = some (.func (.func 47) #[] #[]) := (HB.out.cell (p := ⟨w1.heap.size, 1, none⟩) SW1.out).trans (HSH.out 1 _ rfl)
        by_cases hk : a0 = 4
        · subst hk
          go_wp2_with (go_at_call 47; (with_reducible refine ((HS.out _ (BR.out _)).1 rfl).mono ?_); rintro e w4 ⟨rfl, hb4⟩)
          go_roundw
          case rel => exact ⟨1, by omega, by go_num, ⟨below_step (below_alloc HB.out _) hb4⟩⟩
          case measure => simp [intOf]
        · have hk0 : ((4 : Int) == a0) = false := by simp; omega
          go_wp2
          go_roundw
          case rel => exact ⟨1, by omega, by go_num, ⟨below_alloc HB.out _⟩⟩
          case measure => simp [intOf]
      · have s0 : wr.cell? ⟨w1.heap.size, 2, none⟩ = some (.int .i64 5) := (HB.out.cell (p := ⟨w1.heap.size, 2, none⟩) SW1.out).trans (HSH.out 2 _ rfl)
        have s1 : wr.cell? ⟨w1.heap.size, 3, none⟩ = some (.func (.func 48) #[] #[]) := (HB.out.cell (p := ⟨w1.heap.size, 3, none⟩) SW1.out).trans (HSH.out 3 _ rfl)
        by_cases hk : a0 = 5
        · subst hk
          go_wp2_with (go_at_call 48; (with_reducible refine ((HS.out _ (BR.out _)).2.1 rfl).mono ?_); rintro e w4 ⟨rfl, hb4⟩)
          go_roundw
          case rel => exact ⟨2, by omega, by go_num, ⟨below_step (below_alloc HB.out _) hb4⟩⟩
          case measure => simp [intOf]
        · have hk0 : ((5 : Int) == a0) = false := by simp; omega
          go_wp2
          go_roundw
          case rel => exact ⟨2, by omega, by go_num, ⟨below_alloc HB.out _⟩⟩
          case measure => simp [intOf]
      · have s0 : wr.cell? ⟨w1.heap.size, 4, none⟩ = some (.int .i64 6) := (HB.out.cell (p := ⟨w1.heap.size, 4, none⟩) SW1.out).trans (HSH.out 4 _ rfl)
        have s1 : wr.cell? ⟨w1.heap.size, 5, none⟩ = some (.func (.func 49) #[] #[]) := (HB.out.cell (p := ⟨w1.heap.size, 5, none⟩) SW1.out).trans (HSH.out 5 _ rfl)
        by_cases hk : a0 = 6
        · subst hk
          go_wp2_with (go_at_call 49; (with_reducible refine ((HS.out _ (BR.out _)).2.2.1 rfl).mono ?_); rintro e w4 ⟨rfl, hb4⟩)
          go_roundw
          case rel => exact ⟨3, by omega, by go_num, ⟨below_step (below_alloc HB.out _) hb4⟩⟩
          case measure => simp [intOf]
        · have hk0 : ((6 : Int) == a0) = false := by simp; omega
          go_wp2
          go_roundw
          case rel => exact ⟨3, by omega, by go_num, ⟨below_alloc HB.out _⟩⟩
          case measure => simp [intOf]
      · have s0 : wr.cell? ⟨w1.heap.size, 6, none⟩ = some (.int .i64 7) := (HB.out.cell (p := ⟨w1.heap.size, 6, none⟩) SW1.out).trans (HSH.out 6 _ rfl)
        have s1 : wr.cell? ⟨w1.heap.size, 7, none⟩ = some (.func (.func 50) #[] #[]) := (HB.out.cell (p := ⟨w1.heap.size, 7, none⟩) SW1.out).trans (HSH.out 7 _ rfl)
        by_cases hk : a0 = 7
        · subst hk
          go_wp2_with (go_at_call 50; (with_reducible refine ((HS.out _ (BR.out _)).2.2.2.1 rfl).mono ?_); rintro e w4 ⟨rfl, hb4⟩)
          go_roundw
          case rel => exact ⟨4, by omega, by go_num, ⟨below_step (below_alloc HB.out _) hb4⟩⟩
          case measure => simp [intOf]
        · have hk0 : ((7 : Int) == a0) = false := by simp; omega
          go_wp2
          go_roundw
          case rel => exact ⟨4, by omega, by go_num, ⟨below_alloc HB.out _⟩⟩
          case measure => simp [intOf]
      · have s0 : wr.cell? ⟨w1.heap.size, 8, none⟩ = some (.int .i64 8) := (HB.out.cell (p := ⟨w1.heap.size, 8, none⟩) SW1.out).trans (HSH.out 8 _ rfl)
        have s1 : wr.cell? ⟨w1.heap.size, 9, none⟩ = some (.func (.func 51) #[] #[]) := (HB.out.cell (p := ⟨w1.heap.size, 9, none⟩) SW1.out).trans (HSH.out 9 _ rfl)
        by_cases hk : a0 = 8
        · subst hk
          go_wp2_with (go_at_call 51; (with_reducible refine ((HS.out _ (BR.out _)).2.2.2.2.1 rfl).mono ?_); rintro e w4 ⟨rfl, hb4⟩)
          go_roundw
          case rel => exact ⟨5, by omega, by go_num, ⟨below_step (below_alloc HB.out _) hb4⟩⟩
          case measure => simp [intOf]
        · have hk0 : ((8 : Int) == a0) = false := by simp; omega
          go_wp2
          go_roundw
          case rel => exact ⟨5, by omega, by go_num, ⟨below_alloc HB.out _⟩⟩
          case measure => simp [intOf]
      · have s0 : wr.cell? ⟨w1.heap.size, 10, none⟩ = some (.int .i64 9) := (HB.out.cell (p := ⟨w1.heap.size, 10, none⟩) SW1.out).trans (HSH.out 10 _ rfl)
        have s1 : wr.cell? ⟨w1.heap.size, 11, none⟩ = some (.func (.func 52) #[] #[]) := (HB.out.cell (p := ⟨w1.heap.size, 11, none⟩) SW1.out).trans (HSH.out 11 _ rfl)
        by_cases hk : a0 = 9
        · subst hk
          go_wp2_with (go_at_call 52; (with_reducible refine ((HS.out _ (BR.out _)).2.2.2.2.2 rfl).mono ?_); rintro e w4 ⟨rfl, hb4⟩)
          go_roundw
          case rel => exact ⟨6, by omega, by go_num, ⟨below_step (below_alloc HB.out _) hb4⟩⟩
          case measure => simp [intOf]
        · have hk0 : ((9 : Int) == a0) = false := by simp; omega
          go_wp2
          go_roundw
          case rel => exact ⟨6, by omega, by go_num, ⟨below_alloc HB.out _⟩⟩
          case measure => simp [intOf]
    · obtain rfl : q = 6 := by omega
      have HY : Aside0 (∀ (j : Nat) (v : Value), (#[.int .i64 a0, .int .i64 a1, .int .i64 a2, .int .i64 a3, .int .i64 a4, .int .i64 a5, .int .i64 a6, .int .i64 a7, .slice A8 l8.length c8, .slice A9 l9.length c9] : Array Value)[j]? = some v → wr.cell? ⟨w.heap.size, j, none⟩ = some v) := ⟨fun j v hj => (HB.out.cell (p := ⟨w.heap.size, j, none⟩) SW.out).trans (HX1.out j v hj)⟩
      have y0 := HY.out 0 _ rfl
      have y8 := HY.out 8 _ rfl
      have y9 := HY.out 9 _ rfl
      go_wp2
      go_loopw [41] (fun i wr => ∃ p : Nat, p ≤ l9.length ∧ i = .int .i64 p ∧ Aside0 (∀ j : Nat, j < p → deadAt a0 x l9 j = false) ∧ Aside0 (Below w2.heap.size w2 wr)) (fun i _ => l9.length - (intOf i).toNat)
      case atStart => exact ⟨0, by omega, rfl, ⟨fun j hj => by omega⟩, HB⟩
      case round =>
        clear HY y0 y8 y9 HB
        obtain ⟨p, hp, rfl, HJ, HB2⟩ := hrel
        by_cases hlt2 : p < l9.length
        · have hlt3 : decide ((p : Int) < (l9.length : Int)) = true := by simp; omega
          have HZ : Aside0 (∀ (j : Nat) (v : Value), (#[.int .i64 a0, .int .i64 a1, .int .i64 a2, .int .i64 a3, .int .i64 a4, .int .i64 a5, .int .i64 a6, .int .i64 a7, .slice A8 l8.length c8, .slice A9 l9.length c9] : Array Value)[j]? = some v → ∀ o, (wr.alloc o).cell? ⟨w.heap.size, j, none⟩ = some v) := ⟨fun j v hj o => ((below_alloc (Below.refl _ _) o).cell (p := ⟨w.heap.size, j, none⟩) (Nat.lt_of_lt_of_le SW.out HB2.out.size)).trans ((HB2.out.cell (p := ⟨w.heap.size, j, none⟩) SW.out).trans (HX1.out j v hj))⟩
          have z0 := HZ.out 0 _ rfl
          have z8 := HZ.out 8 _ rfl
          obtain ⟨ad, e9, hx0, hx1⟩ := at_T38 HR9.out (p : Int) (by omega) (by omega)
          cases e9
          replace hx0 := ((below_step BB.out HB2.out).cell (World.block_lt_of_cell? w _ hx0)).trans hx0
          replace hx1 := ((below_step BB.out HB2.out).cell (World.block_lt_of_cell? w _ hx1)).trans hx1
          simp only [Int.toNat_natCast] at hx0 hx1
          have HP := Aside0.mk hlt2
          have HLP : Aside0 (p ≤ 4096) := ⟨by have := HL.out; omega⟩
          obtain ⟨f0, hf0⟩ : ∃ f0, f0 = (rd_T38 l9 p).f0 := ⟨_, rfl⟩
          obtain ⟨f1, hf1⟩ : ∃ f1, f1 = (rd_T38 l9 p).f1 := ⟨_, rfl⟩
          rw [← hf0] at hx0
          rw [← hf1] at hx1
          have HF := Aside0.mk hf0
          clear hf0 hf1
          have hwp : wrap64 ((p : Int) + 1) = ((p + 1 : Nat) : Int) := by have := HLP.out; unfold wrap64; omega
          obtain ⟨d, hd⟩ : ∃ d, d = (f0 == 11) := ⟨_, rfl⟩
          have hd2 : (f0 == 11) = d := hd.symm
          have h50 : (a0 == 5) = false := by have := H5.out; simp [this]
          have HD : Aside0 (deadAt a0 x l9 p = d) := ⟨by unfold deadAt; rw [← HF.out, hd2, h50]; simp⟩
          clear hd
          cases d
          · go_wp2
            go_roundw
            case rel => exact ⟨p + 1, HP.out, (by rw [hwp]), ⟨fun j hj => by rcases Nat.lt_succ_iff_lt_or_eq.1 hj with h | rfl; exact HJ.out j h; exact HD.out⟩, ⟨below_alloc HB2.out _⟩⟩
            case measure => rw [hwp]; exact Nat.sub_lt_sub_left HP.out (Nat.lt_succ_self p)
          · go_wp2
            go_ret
            exact ⟨by rw [HRR.out, deadZ.six HP.out HD.out]; rfl, below_alloc (below_step BB.out HB2.out) _⟩
        · obtain rfl : p = l9.length := by omega
          have hlt3 : decide ((l9.length : Int) < (l9.length : Int)) = false := by simp
          go_wp2
          go_ret
          exact ⟨by rw [HRR.out, deadZ.zero HJ.out]; rfl, below_step BB.out HB2.out⟩
theorem object_Layout.calls (k : Nat) (a0 a1 a2 a3 a4 a5 a6 a7 : Int) (A8 : Option Addr) (c8 : Nat) (l8 : List Int) (A9 : Option Addr) (c9 : Nat) (l9 : List S38) (r : Int) (w : World) (hr8 : Kd.C (Kd.int .i64) w A8 l8.length l8) (hc8 : l8.length ≤ c8) (hr9 : Kd.C k38 w A9 l9.length l9) (hc9 : l9.length ≤ c9) (h : object_Layout.f k a0 a1 a2 a3 a4 a5 a6 a7 l8 l9 = some r) :
    Calls Try.prog 32 #[.agg #[.int .i64 a0, .int .i64 a1, .int .i64 a2, .int .i64 a3, .int .i64 a4, .int .i64 a5, .int .i64 a6, .int .i64 a7, .slice A8 l8.length c8, .slice A9 l9.length c9]] w fun e w' => e = .returned (.int .i64 r) ∧ Below w.heap.size w w' := by
  unfold object_Layout.f at h
  obtain ⟨⟨cs, e⟩, hC, h⟩ := Option.bind_eq_some_iff.1 h
  dsimp only at h
  by_cases he : e = 0
  · subst he
    rw [if_pos rfl] at h
    obtain ⟨b, hb, h⟩ := Option.bind_eq_some_iff.1 h
    have hS := shapeFits.shapes k a0 a1 a2 a3 a4 a5 a6 a7 A8 c8 l8 A9 c9 l9 b w hr8 hc8 hr9 hc9 hb
    cases b with
    | false =>
      rw [if_neg (by decide)] at h
      obtain rfl := Option.some.inj h
      exact object_Layout.bad k a0 a1 a2 a3 a4 a5 a6 a7 A8 c8 l8 A9 c9 l9 cs w hr8 hc8 hr9 hc9 hC hS (shapeFits.kind hb)
    | true =>
      rw [if_pos rfl] at h
      split at h
      · rename_i hg
        obtain rfl := Option.some.inj h
        by_cases h5 : a0 = 5
        · exact object_Layout.good5 k a0 a1 a2 a3 a4 a5 a6 a7 A8 c8 l8 A9 c9 l9 cs w hr8 hc8 hr9 hc9 hC hS h5 hg.1 hg.2
        · exact object_Layout.goodN k a0 a1 a2 a3 a4 a5 a6 a7 A8 c8 l8 A9 c9 l9 cs w hr8 hc8 hr9 hc9 hC hS h5 hg.1 hg.2
      · cases h
  · rw [if_neg he] at h
    obtain rfl := Option.some.inj h
    exact object_Layout.err k a0 a1 a2 a3 a4 a5 a6 a7 A8 c8 l8 A9 c9 l9 cs e w hr8 hc8 hr9 hc9 hC he

end Go.Proofs.Ytepoalgoombpeaa.Print
