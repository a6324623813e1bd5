/- PROVED: the law StrtabTurns's function returns true. Conditions: those that its arguments' reading gives. -/
import Derived.Test.YtonjhnglcffihaaTurnsIn
set_option linter.unusedVariables false
set_option linter.unusedSimpArgs false
namespace Go.Proofs.Ytonjhnglcffihaa.Tab
open Go Go.RowKit Go.Proofs.Ytonjhnglcffihaa.Print Go.Proofs.YtonjhnglcffihaaW.PrintWords Go.Proofs.YtonjhnglcffihaaW.PrintLast Go.Proofs.YtonjhnglcffihaaW.PrintMore
/-- A call of a function value, in a region that draws. -/
theorem goesF_ {P : Program} {ops : Array Oper} {Q : Exit → Act → World → Prop} {oi : Oper} {N : Option Tmp} {a : Act} {w : World} {K : Act → World → Prop} {f : FuncId} {fn : Func} {aops : Array Operand} {ts : Array TypeId} (hf : P.funcs[f]? = some fn) (hname : (fn.name == "runtime.NumGoroutine") = false) (hb : fn.body.isSome = true) (args env : Array Value)
    (hw : Region.wanted oi (yielded ops a.tmps) = true) (hN : oi.dst = N) (x : Operand) (hop : oi.op = .call { callee := .value x, args := aops, argTypes := ts }) (hx : a.eval x = .func (.func f) #[] env) (hargs : aops.map a.eval = args)
    (h : Calls P f (args ++ env) w fun e w' => ∃ v, e = .returned v ∧ K (a.put N v) w') : if Region.wanted oi (yielded ops a.tmps) = true then Oper.wp P oi a w K Q else K (a.put N undef) w := by
  refine call_ f (args ++ env) hw hN ?_ h
  have he := enters_ hf hname hb (args ++ env) w
  unfold execOp
  simp [hop, resolve, Deferred.ofValue, invoke, hx, hargs, he]
abbrev Pair (N : Nat) (w : World) (B g : Nat) (st rt : St) : Prop := Duo N w (PT B st) (PT g rt)
theorem Pair.below {N : Nat} {w w' : World} {B g : Nat} {st rt : St} (h : Pair N w B g st rt) (hb : Below w.heap.size w w') : Pair N w' B g st rt := Duo.below h (tab_abides B st) (tab_abides g rt) hb
theorem Pair.put {N : Nat} {w : World} {B g : Nat} {st rt : St} (h : Pair N w B g st rt) (hN : N ≤ w.heap.size) (s : ByteArray) (hs : s.size ≤ maxLen) (x : Int) (hw : (Lit.int .i64 x).wf = true) (hq : st.q + 1 ≤ 1000) :
    Calls Try.prog 16 #[.pointer (some ⟨B, 0, none⟩), .string s, .int .i64 x] w fun e w' => e = .returned (.int .i64 (st.putE s x)) ∧ Pair N w' B g (st.put s x) rt ∧ Below N w w' :=
  Duo.left (E := fun e => e = .returned (.int .i64 (st.putE s x))) (P' := PT B (st.put s x)) h hN (tab_abides g rt) (fun S t => Tab.put t s hs x hw hq)
theorem Pair.put2 {N : Nat} {w : World} {B g : Nat} {st rt : St} (h : Pair N w B g st rt) (hN : N ≤ w.heap.size) (s : ByteArray) (hs : s.size ≤ maxLen) (x : Int) (hw : (Lit.int .i64 x).wf = true) (hq : rt.q + 1 ≤ 1000) :
    Calls Try.prog 16 #[.pointer (some ⟨g, 0, none⟩), .string s, .int .i64 x] w fun e w' => e = .returned (.int .i64 (rt.putE s x)) ∧ Pair N w' B g st (rt.put s x) ∧ Below N w w' := by
  refine (Pair.put (Duo.swap h) hN s hs x hw hq).mono ?_
  rintro e w' ⟨he, d, b⟩
  exact ⟨he, Duo.swap d, b⟩
theorem Pair.drop2 {N : Nat} {w : World} {B g : Nat} {st rt : St} (h : Pair N w B g st rt) (hN : N ≤ w.heap.size) (x : Int) (hw : (Lit.int .i64 x).wf = true) :
    Calls Try.prog 18 #[.pointer (some ⟨g, 0, none⟩), .int .i64 x] w fun e w' => e = .returned (.int .i64 (rt.dropE x)) ∧ Pair N w' B g st (rt.drop x) ∧ Below N w w' := by
  refine (Duo.left (E := fun e => e = .returned (.int .i64 (rt.dropE x))) (P' := PT g (rt.drop x)) (Duo.swap h) hN (tab_abides B st) (fun S t => Tab.drop t x hw)).mono ?_
  rintro e w' ⟨he, d, b⟩
  exact ⟨he, Duo.swap d, b⟩
theorem Pair.new {N : Nat} {w w1 w2 : World} {B g : Nat} (hN : N ≤ w.heap.size) (h1 : Tab w1 (Btw w.heap.size w1.heap.size) B St.new) (b1 : Below w.heap.size w w1) (h2 : Tab w2 (Btw w1.heap.size w2.heap.size) g St.new) (b2 : Below w1.heap.size w1 w2) : Pair N w2 B g St.new St.new :=
  ⟨Btw w.heap.size w1.heap.size, Btw w1.heap.size w2.heap.size, Tab.below h1 b2, h2, fun k hk => ⟨Nat.le_trans hN hk.1, Nat.lt_of_lt_of_le hk.2 b2.size, fun h => by have := hk.2; have := h.1; omega⟩, fun k hk => ⟨Nat.le_trans hN (Nat.le_trans b1.size hk.1), hk.2⟩⟩
theorem hd_wf {l : List ByteArray} (hl : l.length ≤ 50) {t : ByteArray} (h : t ∈ l) : (Lit.int .i64 (hdOf l t)).wf = true := by
  have h1 := hdOf_pos l t
  have h2 := hdOf_le h
  exact WalkArith.wf_i64 ⟨by omega, by omega⟩
theorem mem_take_succ {l : List ByteArray} {q : Nat} {t : ByteArray} (h : l[q]? = some t) (u : ByteArray) : (u ∈ l.take q ∨ u = t) ↔ u ∈ l.take (q + 1) := by
  obtain ⟨hl, e⟩ := List.getElem?_eq_some_iff.1 h
  rw [List.take_succ_eq_append_getElem hl, e]
  simp
theorem mem_drop_succ {l : List ByteArray} {q : Nat} {t : ByteArray} (h : l[q]? = some t) (u : ByteArray) : (u ∈ l.drop (q + 1) ∨ u = t) ↔ u ∈ l.drop q := by
  obtain ⟨hl, e⟩ := List.getElem?_eq_some_iff.1 h
  rw [List.drop_eq_getElem_cons hl, e]
  simp [or_comm]
theorem cell_box (w : World) (v : Value) (t : TypeId) : (w.alloc (Obj.cells #[v] t)).cell? ⟨w.heap.size, 0, none⟩ = some v := by
  have e : (w.alloc (Obj.cells #[v] t)).heap[w.heap.size]? = some (.cells #[v] t (0, 0)) := heap_alloc_new w _
  unfold World.cell?
  simp only [e]
  rfl
def othE (t : ByteArray) : ByteArray := (⟨#[111, 116, 104, 101, 114, 32]⟩ : ByteArray) ++ t
theorem othE_size (t : ByteArray) : (othE t).size = 6 + t.size := by unfold othE; rw [ByteArray.size_append]; rfl
theorem othE_ne (t : ByteArray) : othE t ≠ t := fun e => by have := congrArg ByteArray.size e; rw [othE_size] at this; omega
theorem Kd.C_str_below {w w' : World} {A0 : Option Addr} {l : List ByteArray} (h : Kd.C Kd.string w A0 l.length l) (hb : Below w.heap.size w w') : Kd.C Kd.string w' A0 l.length l := Kd.C_below h hb
set_option maxHeartbeats 16000000 in
set_option maxRecDepth 100000 in
theorem turns_walk (A0 : Option Addr) (c0 : Nat) (l0 : List ByteArray) (s : ByteArray) (w : World) (hr0 : Kd.C Kd.string w A0 l0.length l0) (hc0 : l0.length ≤ c0) (hv : ∀ v ∈ l0, v.size ≤ 140737488351232) (hsm : s.size ≤ maxLen) :
    Calls Try.prog 4 #[.slice A0 l0.length c0, .string s] w fun e w' => e = .returned (.bool true) ∧ Below w.heap.size w w' := by
  have HR0 := Aside0.mk hr0
  have HV := Aside0.mk hv
  have HSM := Aside0.mk hsm
  clear hr0 hv hsm
  go_enter Try.func4, Try.ntmps4
  have tok := True.intro
  go_wp2_with (first
    | (go_at_call 9; have _t := tok; refine (Tab.new _).mono ?_; rintro e w1 ⟨B, rfl, h1, b1⟩; have H1 := Aside0.mk h1; have B1 := Aside0.mk b1; clear h1 b1 tok)
    | (go_at_call 9; refine (Tab.new _).mono ?_; rintro e w2 ⟨g, rfl, h2, b2⟩; have HW2 := Aside0.mk (Pair.new (Nat.le_refl _) H1.out B1.out h2 b2); have B2 := Aside0.mk (B1.out.trans (b2.mono B1.out.size)); clear h2 b2)
    | (go_at_call 10; refine (alive_calls _).mono ?_; rintro e w3 ⟨rfl, b3⟩; have HW3 := Aside0.mk (Pair.below HW2.out b3); have B3 := Aside0.mk (B2.out.trans (b3.mono B2.out.size)); clear b3))
  clear HW2 H1 B1 B2
  have HWB : Aside0 (Below w.heap.size w (w.alloc (Obj.cells #[Value.slice A0 l0.length c0] 31))) := ⟨below_alloc (Below.refl _ _) _⟩
  have HCB : Aside0 ((w.alloc (Obj.cells #[Value.slice A0 l0.length c0] 31)).cell? ⟨w.heap.size, 0, none⟩ = some (.slice A0 l0.length c0)) := ⟨cell_box _ _ _⟩
  have HRB : Aside0 (Kd.C Kd.string (w.alloc (Obj.cells #[Value.slice A0 l0.length c0] 31)) A0 l0.length l0) := ⟨Kd.C_below HR0.out HWB.out⟩
  have HZ1 : Aside0 (w.heap.size ≤ (w.alloc (Obj.cells #[Value.slice A0 l0.length c0] 31)).heap.size) := ⟨HWB.out.size⟩
  generalize w.alloc (Obj.cells #[Value.slice A0 l0.length c0] 31) = W1 at HW3 B3 HWB HCB HRB HZ1
  have HXB : Aside0 (∀ w', Below W1.heap.size W1 w' → w'.cell? ⟨w.heap.size, 0, none⟩ = some (.slice A0 l0.length c0) ∧ Kd.C Kd.string w' A0 l0.length l0) := ⟨fun w' hb => ⟨(hb.cell (World.block_lt_of_cell? W1 _ HCB.out)).trans HCB.out, Kd.C_below HRB.out hb⟩⟩
  have HFIN : Aside0 (∀ w', Below W1.heap.size W1 w' → Below w.heap.size w w') := ⟨fun w' hb => HWB.out.trans (hb.mono HZ1.out)⟩
  clear HCB HRB HWB HR0
  have hmf : ∀ (fn : Fn) (first cap : Array Value) (w : World), (Instr.makeFunc fn first cap).run Try.prog w = .ok (.func fn first cap) w := fun _ _ _ _ => rfl
  go_loopw [7, 8] (fun n i wr => ∃ (q : Nat) (x : Int), q ≤ l0.length ∧ q ≤ 51 ∧ n = .int .i64 x ∧ i = .int .i64 q ∧ Aside0 (Pair W1.heap.size wr B g St.new St.new) ∧ Aside0 (Below W1.heap.size W1 wr)) (fun _ i _ => l0.length - (intOf i).toNat)
  case atStart => exact ⟨0, 0, by omega, by omega, rfl, rfl, HW3, B3⟩
  case round =>
    obtain ⟨q, x, hq, hq51, rfl, rfl, HT, HB⟩ := hrel
    have k0 := (HXB.out _ HB.out).1
    by_cases hlt : q < l0.length
    · have hlt0 : (q : Int) < (l0.length : Int) := by omega
      have hq0 : (0 : Int) ≤ (q : Int) := by omega
      by_cases h50 : q ≤ 50
      · have h50a : (q : Int) ≤ 50 := by omega
        obtain ⟨t, ht⟩ : ∃ u, l0[q]? = some u := ⟨_, List.getElem?_eq_getElem hlt⟩
        obtain ⟨ad, rfl, x0⟩ := at_text (HXB.out _ HB.out).2 ht
        have hwi : Aside0 (wrap64 ((q : Int) + 1) = ((q + 1 : Nat) : Int)) := ⟨wrap_nat_succ q (by omega)⟩
        go_wp2
        first
          | exact ⟨⟨q + 1, _, hlt, by omega, rfl, rfl, HT, HB⟩, by show l0.length - ((q + 1 : Nat) : Int).toNat < l0.length - (q : Int).toNat; omega⟩
          | (rw [hwi.out]; exact ⟨⟨q + 1, _, hlt, by omega, rfl, rfl, HT, HB⟩, by show l0.length - ((q + 1 : Nat) : Int).toNat < l0.length - (q : Int).toNat; omega⟩)
      · have h50a : ¬ (q : Int) ≤ 50 := by omega
        have hlen : (l0.length : Int) > 50 := by omega
        go_wp2
        go_ret
        exact ⟨rfl, HFIN.out _ HB.out⟩
    · have hlt0 : ¬ (q : Int) < (l0.length : Int) := by omega
      by_cases hlen : (l0.length : Int) > 50
      · go_wp2
        go_ret
        exact ⟨rfl, HFIN.out _ HB.out⟩
      · by_cases hx : x > 5000
        · go_wp2
          go_ret
          exact ⟨rfl, HFIN.out _ HB.out⟩
        · by_cases hs5 : (s.size : Int) > 5000
          · go_wp2
            go_ret
            exact ⟨rfl, HFIN.out _ HB.out⟩
          · go_wp2
            have hl50 : l0.length ≤ 50 := by omega
            clear hx hs5 hlt hlt0 hq hq51 k0 HW3 B3
            go_loopw [10] (fun i wr => ∃ q : Nat, q ≤ l0.length ∧ i = .int .i64 q ∧ Aside0 (∃ st, Pair W1.heap.size wr B g st St.new ∧ TI l0 (fun t => t ∈ l0.take q) noX st ∧ st.q ≤ q) ∧ Aside0 (Below W1.heap.size W1 wr)) (fun i _ => l0.length - (intOf i).toNat)
            case atStart => exact ⟨0, by omega, rfl, ⟨⟨St.new, HT.out, (TI.new l0).mono (by simp), Nat.le_refl _⟩⟩, HB⟩
            case round =>
              clear HT HB
              obtain ⟨q, hq, rfl, HST, HB⟩ := hrel
              have k0 := (HXB.out _ HB.out).1
              obtain ⟨st, hP, hTI, hsq⟩ := HST.out
              clear HST
              by_cases hlt : q < l0.length
              · have hlt0 : (q : Int) < (l0.length : Int) := by omega
                have hq0 : (0 : Int) ≤ (q : Int) := by omega
                obtain ⟨t, ht⟩ : ∃ u, l0[q]? = some u := ⟨_, List.getElem?_eq_getElem hlt⟩
                obtain ⟨ad, rfl, x0⟩ := at_text (HXB.out _ HB.out).2 ht
                have HTQ := Aside0.mk ht
                have hmem := List.mem_of_getElem? ht
                have HXT : Aside0 (∀ w', Below W1.heap.size W1 w' → w'.cell? (ad.add q) = some (.string t)) := ⟨fun w' hb => by obtain ⟨ad', e, x⟩ := at_text (HXB.out _ hb).2 HTQ.out; cases e; exact x⟩
                have HDD : Aside0 (Pair W1.heap.size wr.drew B g st St.new) := ⟨Pair.below hP ((Below.refl _ _).drew)⟩
                have HBD : Aside0 (Below W1.heap.size W1 wr.drew) := ⟨HB.out.drew⟩
                have HPUT := Aside0.mk (fun w' (h : Pair W1.heap.size w' B g st St.new) (hN : W1.heap.size ≤ w'.heap.size) => Pair.put h hN t (Nat.le_trans (HV.out t hmem) (by decide)) (hdOf l0 t) (hd_wf hl50 hmem) (by omega))
                have HST2 : Aside0 (TI l0 (fun u => u ∈ l0.take (q + 1)) noX (st.put t (hdOf l0 t)) ∧ (st.put t (hdOf l0 t)).q ≤ q + 1) := ⟨(hTI.put hmem (fun _ _ h => h.elim)).1.mono (mem_take_succ ht), Nat.le_trans (st.put_q _ _) (by omega)⟩
                generalize st.put t (hdOf l0 t) = st' at HPUT HST2
                generalize st.putE t (hdOf l0 t) = e2 at HPUT
                clear ht hmem hP hTI hsq
                have hwi : Aside0 (wrap64 ((q : Int) + 1) = ((q + 1 : Nat) : Int)) := ⟨wrap_nat_succ q (by omega)⟩
                go_wp2
                refine start_ (n := 9) (S := fun w' => w'.cell? ⟨w.heap.size, 0, none⟩ = some (.slice (some ad) l0.length c0) ∧ w'.cell? (ad.add q) = some (.string t)) (ds := [8]) #[false, false, false, false, false, false, false, false, false] (by kernel_rfl) rfl rfl ⟨(HXB.out _ HBD.out).1, (HXT.out _ HBD.out)⟩ (fun hHeld => ?_)
                refine pure_ (i := 0) (N := (some 65)) (v := ?_) (a' := ?_) #[true, false, false, false, false, false, false, false, false] rfl rfl (by kernel_rfl) (fun _ _ _ h => h) (Or.inl ⟨by rfl, ?_⟩) ?_ ?_
                rotate_left
                · intro w'
                  go_simp
                  with_reducible rfl
                rotate_left
                · simp only [Act.put, List.setIfInBounds_toArray, List.set_cons_zero, List.set_cons_succ, i64_w, i32_w]
                  rfl
                refine take_ (i := 1) (N := (some 66)) (v := ?_) (a' := ?_) #[true, true, false, false, false, false, false, false, false] rfl rfl (by kernel_rfl) (fun _ _ _ h => h) (Or.inl ⟨by rfl, ?_⟩) hHeld ?_ ?_
                rotate_left
                · rintro w' ⟨s0, s1⟩
                  go_simp
                  with_reducible rfl
                rotate_left
                · simp only [Act.put, List.setIfInBounds_toArray, List.set_cons_zero, List.set_cons_succ, i64_w, i32_w]
                  rfl
                refine pure_ (i := 2) (N := (some 67)) (v := ?_) (a' := ?_) #[true, true, true, false, false, false, false, false, false] rfl rfl (by kernel_rfl) (fun _ _ _ h => h) (Or.inl ⟨by rfl, ?_⟩) ?_ ?_
                rotate_left
                · intro w'
                  go_simp
                  with_reducible rfl
                rotate_left
                · simp only [Act.put, List.setIfInBounds_toArray, List.set_cons_zero, List.set_cons_succ, i64_w, i32_w]
                  rfl
                refine pure_ (i := 3) (N := (some 68)) (v := ?_) (a' := ?_) #[true, true, true, true, false, false, false, false, false] rfl rfl (by kernel_rfl) (fun _ _ _ h => h) (Or.inl ⟨by rfl, ?_⟩) ?_ ?_
                rotate_left
                · intro w'
                  go_simp
                  with_reducible rfl
                rotate_left
                · simp only [Act.put, List.setIfInBounds_toArray, List.set_cons_zero, List.set_cons_succ, i64_w, i32_w]
                  rfl
                refine take_ (i := 4) (N := (some 69)) (v := ?_) (a' := ?_) #[true, true, true, true, true, false, false, false, false] rfl rfl (by kernel_rfl) (fun _ _ _ h => h) (Or.inl ⟨by rfl, ?_⟩) hHeld ?_ ?_
                rotate_left
                · rintro w' ⟨s0, s1⟩
                  go_simp
                  with_reducible rfl
                rotate_left
                · simp only [Act.put, List.setIfInBounds_toArray, List.set_cons_zero, List.set_cons_succ, i64_w, i32_w]
                  rfl
                refine pure_ (i := 5) (N := (some 70)) (v := ?_) (a' := ?_) #[true, true, true, true, true, true, false, false, false] rfl rfl (by kernel_rfl) (fun _ _ _ h => h) (Or.inl ⟨by rfl, ?_⟩) ?_ ?_
                rotate_left
                · intro w'
                  go_simp
                  with_reducible rfl
                rotate_left
                · simp only [Act.put, List.setIfInBounds_toArray, List.set_cons_zero, List.set_cons_succ, i64_w, i32_w]
                  rfl
                refine pure_ (i := 6) (N := (some 71)) (v := ?_) (a' := ?_) #[true, true, true, true, true, true, true, false, false] rfl rfl (by kernel_rfl) (fun _ _ _ h => h) (Or.inl ⟨by rfl, ?_⟩) ?_ ?_
                rotate_left
                · intro w'
                  go_simp
                  with_reducible rfl
                rotate_left
                · simp only [Act.put, List.setIfInBounds_toArray, List.set_cons_zero, List.set_cons_succ, i64_w, i32_w]
                  rfl
                refine one_ (i := 7) (N := (some 72)) #[true, true, true, true, true, true, true, true, false] rfl rfl (by kernel_rfl) (by decide) (fun K hK => ?_)
                refine goesF_ Try.func15 (by kernel_rfl) rfl #[.int .i64 (q : Int)] #[.pointer (some ⟨w.heap.size, 0, none⟩)] (by rfl) rfl _ rfl (by rfl) (by first | rfl | (simp [Act.eval]; done) | (go_simp; done)) ?_
                refine (hd_calls (w := wr.drew) hHeld.1 (HXB.out _ HBD.out).2 hl50 HTQ.out).mono ?_
                rintro e w5 ⟨rfl, b5⟩
                have HD5 := Aside0.mk (Duo.below HDD.out (tab_abides B _) (tab_abides g _) b5)
                have HB5 := Aside0.mk (HBD.out.trans (b5.mono HBD.out.size))
                refine ⟨_, rfl, hK.out _ _ ⟨(b5.cell (World.block_lt_of_cell? _ _ hHeld.1)).trans hHeld.1, (b5.cell (World.block_lt_of_cell? _ _ hHeld.2)).trans hHeld.2⟩ (fun hHeld => ?_)⟩
                clear b5 hK K
                refine norm_ (a' := ?_) ?_ ?_
                rotate_left
                · simp only [Act.put, List.setIfInBounds_toArray, List.set_cons_zero, List.set_cons_succ, i64_w, i32_w]
                  rfl
                refine last_ (i := 8) (N := (some 73)) #[true, true, true, true, true, true, true, true, true] rfl rfl (by kernel_rfl) (by decide) (fun K hK => ?_)
                refine goes_ Try.func16 (by kernel_rfl) rfl #[.pointer (some ⟨B, 0, none⟩), .string t, .int .i64 (hdOf l0 t)] (by rfl) rfl rfl (by first | rfl | (simp [Act.eval]; done) | (go_simp; done)) ?_
                refine (HPUT.out _ HD5.out HB5.out.size).mono ?_
                rintro e w6 ⟨rfl, d6, b6⟩
                have HD6 := Aside0.mk d6
                have HB6 := Aside0.mk (HB5.out.trans b6)
                refine ⟨_, rfl, hK.out _ _ ?_⟩
                clear d6 b6 hK K
                refine norm_ (a' := ?_) ?_ ?_
                rotate_left
                · simp only [Act.put, List.setIfInBounds_toArray, List.set_cons_zero, List.set_cons_succ, i64_w, i32_w]
                  rfl
                refine done_ (by kernel_rfl) ?_
                clear hHeld HPUT HD5 HB5 HDD HBD HXT x0 k0
                go_wp2
                first
                  | exact ⟨⟨q + 1, hlt, rfl, ⟨⟨st', HD6.out, HST2.out.1, HST2.out.2⟩⟩, HB6⟩, by show l0.length - ((q + 1 : Nat) : Int).toNat < l0.length - (q : Int).toNat; omega⟩
                  | (rw [hwi.out]; exact ⟨⟨q + 1, hlt, rfl, ⟨⟨st', HD6.out, HST2.out.1, HST2.out.2⟩⟩, HB6⟩, by show l0.length - ((q + 1 : Nat) : Int).toNat < l0.length - (q : Int).toNat; omega⟩)
              · have hlt0 : ¬ (q : Int) < (l0.length : Int) := by omega
                obtain rfl : q = l0.length := by omega
                have HTA : Aside0 (TI l0 (fun t => t ∈ l0) noX st) := ⟨hTI.mono (by simp)⟩
                have HP := Aside0.mk hP
                clear hTI hsq hP
                go_wp2
                go_loopw [11] (fun i wr => ∃ p : Nat, p ≤ l0.length ∧ i = .int .i64 ((p : Int) - 1) ∧ Aside0 (∃ st2, Pair W1.heap.size wr B g st st2 ∧ TI l0 (fun t => t ∈ l0.drop p) noX st2 ∧ st2.q ≤ 2 * (l0.length - p)) ∧ Aside0 (Below W1.heap.size W1 wr)) (fun i _ => (intOf i + 1).toNat)
                case atStart => exact ⟨l0.length, Nat.le_refl _, rfl, ⟨⟨St.new, HP.out, (TI.new l0).mono (by simp), by simp [St.new]⟩⟩, HB⟩
                case round =>
                  clear HP HB k0
                  obtain ⟨p, hp, rfl, HST, HB⟩ := hrel
                  have k0 := (HXB.out _ HB.out).1
                  obtain ⟨st2, hP, hTI, hsq⟩ := HST.out
                  clear HST
                  cases p with
                  | zero =>
                    have hn1 : ¬ (((0 : Nat) : Int) - 1 ≥ 0) := by decide
                    have HTB : Aside0 (TI l0 (fun t => t ∈ l0) noX st2) := ⟨hTI.mono (by simp)⟩
                    have HPD := Aside0.mk hP
                    obtain ⟨oka, okb⟩ : st.Ok ∧ st2.Ok := by obtain ⟨S, R, ta, tb, _, _⟩ := hP; exact ⟨ta.1, tb.1⟩
                    have HLE := Aside0.mk (TI.len oka okb HTA.out HTB.out)
                    obtain ⟨f1, f2⟩ := TI.same HTA.out HTB.out s
                    obtain ⟨fh, hfh⟩ : ∃ fh, ((st.find s).map En.h).getD 0 = fh := ⟨_, rfl⟩
                    obtain ⟨fb, hfb⟩ : ∃ fb, (st.find s).isSome = fb := ⟨_, rfl⟩
                    have HFA := Aside0.mk (And.intro hfh hfb)
                    have HFB := Aside0.mk (And.intro (f1.symm.trans hfh) (f2.symm.trans hfb))
                    have hfe : (fh == fh) = true := by simp
                    have hfd : (fb == fb) = true := by simp
                    have HM := Aside0.mk (fun t (ht : t ∈ l0) => (Nat.le_trans (HV.out t ht) (by decide) : t.size ≤ maxLen))
                    clear hTI hsq hP oka okb f1 f2 hfh hfb
                    have tok := True.intro
                    go_wp2_with (first
                      | (go_at_call 19; have _t := tok; refine (two_find HPD.out s HSM.out fh fb HFA.out.1 HFA.out.2).mono ?_; rintro e w31 ⟨rfl, d31, b31⟩; have HD31 := Aside0.mk d31.swap; have HB31 := Aside0.mk (HB.out.trans (b31.mono HB.out.size)); have k0 := (HXB.out _ HB31.out).1; clear d31 b31 tok)
                      | (go_at_call 19; refine (two_find HD31.out s HSM.out fh fb HFB.out.1 HFB.out.2).mono ?_; rintro e w32 ⟨rfl, d32, b32⟩; have HD32 := Aside0.mk d32.swap; have HB32 := Aside0.mk (HB31.out.trans (b32.mono HB31.out.size)); have k0 := (HXB.out _ HB32.out).1; clear d32 b32)
                      | (go_at_call 20; refine (same_calls HD32.out A0 c0 l0 (HXB.out _ HB32.out).2 hl50 HM.out (fun _ h => h) HTA.out HTB.out HLE.out).mono ?_; rintro e w33 ⟨rfl, b33⟩; have HB33 := Aside0.mk (HB32.out.trans (b33.mono HB32.out.size)); clear b33))
                    go_ret
                    exact ⟨rfl, HFIN.out _ HB33.out⟩
                  | succ r =>
                    have er : (((r + 1 : Nat) : Int) - 1) = (r : Int) := by omega
                    rw [er]
                    have hr0 : (r : Int) ≥ 0 := by omega
                    have hr1 : (0 : Int) ≤ (r : Int) := by omega
                    have hr2 : (r : Int) < (l0.length : Int) := by omega
                    obtain ⟨t, ht⟩ : ∃ u, l0[r]? = some u := ⟨_, List.getElem?_eq_getElem (by omega)⟩
                    obtain ⟨ad, rfl, x0⟩ := at_text (HXB.out _ HB.out).2 ht
                    have HTQ := Aside0.mk ht
                    have hmem := List.mem_of_getElem? ht
                    have HXT : Aside0 (∀ w', Below W1.heap.size W1 w' → w'.cell? (ad.add r) = some (.string t)) := ⟨fun w' hb => by obtain ⟨ad', e, x⟩ := at_text (HXB.out _ hb).2 HTQ.out; cases e; exact x⟩
                    have hts := HV.out t hmem
                    have HPD := Aside0.mk hP
                    have HOTH := Aside0.mk (fun w' (h : Pair W1.heap.size w' B g st st2) (hN : W1.heap.size ≤ w'.heap.size) => Pair.put2 h hN (othE t) (by rw [othE_size]; unfold maxLen; omega) (1000 + (r : Int)) (WalkArith.wf_i64 ⟨by omega, by omega⟩) (by omega))
                    have hq3 := st2.put_q (othE t) (1000 + (r : Int))
                    have HRD := Aside0.mk (hTI.round hmem (othE_ne t) (x := 1000 + (r : Int)) (by omega) (by omega))
                    have hq4 := (st2.put (othE t) (1000 + (r : Int))).put_q t (hdOf l0 t)
                    have HPUT2 := Aside0.mk (fun w' (h : Pair W1.heap.size w' B g st (st2.put (othE t) (1000 + (r : Int)))) (hN : W1.heap.size ≤ w'.heap.size) => Pair.put2 h hN t (Nat.le_trans hts (by decide)) (hdOf l0 t) (hd_wf hl50 hmem) (by omega))
                    generalize st2.putE (othE t) (1000 + (r : Int)) = e1 at HOTH HRD
                    generalize st2.put (othE t) (1000 + (r : Int)) = s3 at HOTH HRD hq3 hq4 HPUT2
                    generalize s3.putE t (hdOf l0 t) = e2 at HPUT2
                    generalize s3.put t (hdOf l0 t) = s4 at HRD hq4 HPUT2
                    have HQ4 : Aside0 (s4.q ≤ 2 * (l0.length - r)) := ⟨by omega⟩
                    clear ht hmem hP hTI hsq hq3 hq4
                    go_wp2_with (first
                      | (go_at_call 16; refine (HOTH.out _ HPD.out HB.out.size).mono ?_; rintro e w20 ⟨rfl, d20, b20⟩; have HD20 := Aside0.mk d20; have HB20 := Aside0.mk (HB.out.trans b20); clear d20 b20))
                    have HDD : Aside0 (Pair W1.heap.size w20.drew B g st s3) := ⟨Pair.below HD20.out ((Below.refl _ _).drew)⟩
                    have HBD : Aside0 (Below W1.heap.size W1 w20.drew) := ⟨HB20.out.drew⟩
                    refine start_ (n := 9) (S := fun w' => w'.cell? ⟨w.heap.size, 0, none⟩ = some (.slice (some ad) l0.length c0) ∧ w'.cell? (ad.add r) = some (.string t)) (ds := [8]) #[false, false, false, false, false, false, false, false, false] (by kernel_rfl) rfl rfl ⟨(HXB.out _ HBD.out).1, (HXT.out _ HBD.out)⟩ (fun hHeld => ?_)
                    refine pure_ (i := 0) (N := (some 90)) (v := ?_) (a' := ?_) #[true, false, false, false, false, false, false, false, false] rfl rfl (by kernel_rfl) (fun _ _ _ h => h) (Or.inl ⟨by rfl, ?_⟩) ?_ ?_
                    rotate_left
                    · intro w'
                      go_simp
                      with_reducible rfl
                    rotate_left
                    · simp only [Act.put, List.setIfInBounds_toArray, List.set_cons_zero, List.set_cons_succ, i64_w, i32_w]
                      rfl
                    refine take_ (i := 1) (N := (some 91)) (v := ?_) (a' := ?_) #[true, true, false, false, false, false, false, false, false] rfl rfl (by kernel_rfl) (fun _ _ _ h => h) (Or.inl ⟨by rfl, ?_⟩) hHeld ?_ ?_
                    rotate_left
                    · rintro w' ⟨s0, s1⟩
                      go_simp
                      with_reducible rfl
                    rotate_left
                    · simp only [Act.put, List.setIfInBounds_toArray, List.set_cons_zero, List.set_cons_succ, i64_w, i32_w]
                      rfl
                    refine pure_ (i := 2) (N := (some 92)) (v := ?_) (a' := ?_) #[true, true, true, false, false, false, false, false, false] rfl rfl (by kernel_rfl) (fun _ _ _ h => h) (Or.inl ⟨by rfl, ?_⟩) ?_ ?_
                    rotate_left
                    · intro w'
                      go_simp
                      with_reducible rfl
                    rotate_left
                    · simp only [Act.put, List.setIfInBounds_toArray, List.set_cons_zero, List.set_cons_succ, i64_w, i32_w]
                      rfl
                    refine pure_ (i := 3) (N := (some 93)) (v := ?_) (a' := ?_) #[true, true, true, true, false, false, false, false, false] rfl rfl (by kernel_rfl) (fun _ _ _ h => h) (Or.inl ⟨by rfl, ?_⟩) ?_ ?_
                    rotate_left
                    · intro w'
                      go_simp
                      with_reducible rfl
                    rotate_left
                    · simp only [Act.put, List.setIfInBounds_toArray, List.set_cons_zero, List.set_cons_succ, i64_w, i32_w]
                      rfl
                    refine take_ (i := 4) (N := (some 94)) (v := ?_) (a' := ?_) #[true, true, true, true, true, false, false, false, false] rfl rfl (by kernel_rfl) (fun _ _ _ h => h) (Or.inl ⟨by rfl, ?_⟩) hHeld ?_ ?_
                    rotate_left
                    · rintro w' ⟨s0, s1⟩
                      go_simp
                      with_reducible rfl
                    rotate_left
                    · simp only [Act.put, List.setIfInBounds_toArray, List.set_cons_zero, List.set_cons_succ, i64_w, i32_w]
                      rfl
                    refine pure_ (i := 5) (N := (some 95)) (v := ?_) (a' := ?_) #[true, true, true, true, true, true, false, false, false] rfl rfl (by kernel_rfl) (fun _ _ _ h => h) (Or.inl ⟨by rfl, ?_⟩) ?_ ?_
                    rotate_left
                    · intro w'
                      go_simp
                      with_reducible rfl
                    rotate_left
                    · simp only [Act.put, List.setIfInBounds_toArray, List.set_cons_zero, List.set_cons_succ, i64_w, i32_w]
                      rfl
                    refine pure_ (i := 6) (N := (some 96)) (v := ?_) (a' := ?_) #[true, true, true, true, true, true, true, false, false] rfl rfl (by kernel_rfl) (fun _ _ _ h => h) (Or.inl ⟨by rfl, ?_⟩) ?_ ?_
                    rotate_left
                    · intro w'
                      go_simp
                      with_reducible rfl
                    rotate_left
                    · simp only [Act.put, List.setIfInBounds_toArray, List.set_cons_zero, List.set_cons_succ, i64_w, i32_w]
                      rfl
                    refine one_ (i := 7) (N := (some 97)) #[true, true, true, true, true, true, true, true, false] rfl rfl (by kernel_rfl) (by decide) (fun K hK => ?_)
                    refine goesF_ Try.func15 (by kernel_rfl) rfl #[.int .i64 (r : Int)] #[.pointer (some ⟨w.heap.size, 0, none⟩)] (by rfl) rfl _ rfl (by rfl) (by first | rfl | (simp [Act.eval]; done) | (go_simp; done)) ?_
                    refine (hd_calls (w := w20.drew) hHeld.1 (HXB.out _ HBD.out).2 hl50 HTQ.out).mono ?_
                    rintro e w5 ⟨rfl, b5⟩
                    have HD5 := Aside0.mk (Duo.below HDD.out (tab_abides B _) (tab_abides g _) b5)
                    have HB5 := Aside0.mk (HBD.out.trans (b5.mono HBD.out.size))
                    refine ⟨_, rfl, hK.out _ _ ⟨(b5.cell (World.block_lt_of_cell? _ _ hHeld.1)).trans hHeld.1, (b5.cell (World.block_lt_of_cell? _ _ hHeld.2)).trans hHeld.2⟩ (fun hHeld => ?_)⟩
                    clear b5 hK K
                    refine norm_ (a' := ?_) ?_ ?_
                    rotate_left
                    · simp only [Act.put, List.setIfInBounds_toArray, List.set_cons_zero, List.set_cons_succ, i64_w, i32_w]
                      rfl
                    refine last_ (i := 8) (N := (some 98)) #[true, true, true, true, true, true, true, true, true] rfl rfl (by kernel_rfl) (by decide) (fun K hK => ?_)
                    refine goes_ Try.func16 (by kernel_rfl) rfl #[.pointer (some ⟨g, 0, none⟩), .string t, .int .i64 (hdOf l0 t)] (by rfl) rfl rfl (by first | rfl | (simp [Act.eval]; done) | (go_simp; done)) ?_
                    refine (HPUT2.out _ HD5.out HB5.out.size).mono ?_
                    rintro e w6 ⟨rfl, d6, b6⟩
                    have HD6 := Aside0.mk d6
                    have HB6 := Aside0.mk (HB5.out.trans b6)
                    refine ⟨_, rfl, hK.out _ _ ?_⟩
                    clear d6 b6 hK K
                    refine norm_ (a' := ?_) ?_ ?_
                    rotate_left
                    · simp only [Act.put, List.setIfInBounds_toArray, List.set_cons_zero, List.set_cons_succ, i64_w, i32_w]
                      rfl
                    refine done_ (by kernel_rfl) ?_
                    clear hHeld HPUT2 HD5 HB5 HDD HBD HXT x0 k0 HOTH HPD HD20 HB20
                    by_cases he : e1 = 0
                    · subst he
                      obtain ⟨hde, hti⟩ := HRD.out.1 rfl
                      have HTI9 := Aside0.mk (hti.mono (mem_drop_succ HTQ.out))
                      have HQ9 : Aside0 ((s4.drop (1000 + (r : Int))).q ≤ 2 * (l0.length - r)) := ⟨by rw [St.drop_q]; exact HQ4.out⟩
                      have HDR := Aside0.mk (Pair.drop2 HD6.out HB6.out.size (1000 + (r : Int)) (WalkArith.wf_i64 ⟨by omega, by omega⟩))
                      rw [hde] at HDR
                      generalize s4.drop (1000 + (r : Int)) = s5 at HTI9 HQ9 HDR
                      clear hti hde
                      go_wp2_with (first
                        | (go_at_call 17; refine (no_calls _ _).mono ?_; rintro e w8 ⟨rfl, hw8⟩; have hw8 := hw8.symm; subst hw8)
                        | (go_at_call 18; refine HDR.out.mono ?_; rintro e w9 ⟨rfl, d9, b9⟩; have HD9 := Aside0.mk d9; have HB9 := Aside0.mk (HB6.out.trans b9); clear d9 b9))
                      exact ⟨⟨r, by omega, rfl, ⟨⟨s5, HD9.out, HTI9.out, HQ9.out⟩⟩, HB9⟩, by show ((r : Int) - 1 + 1).toNat < ((r : Int) + 1).toNat; omega⟩
                    · have hea : (e1 == 0) = false := beq_eq_false_iff_ne.2 he
                      have HTI9 := Aside0.mk ((HRD.out.2 he).mono (mem_drop_succ HTQ.out))
                      go_wp2_with (first
                        | (go_at_call 17; refine (no_calls _ _).mono ?_; rintro e w8 ⟨rfl, hw8⟩; have hw8 := hw8.symm; subst hw8))
                      exact ⟨⟨r, by omega, rfl, ⟨⟨s4, HD6.out, HTI9.out, HQ4.out⟩⟩, HB6⟩, by show ((r : Int) - 1 + 1).toNat < ((r : Int) + 1).toNat; omega⟩
end Go.Proofs.Ytonjhnglcffihaa.Tab
