/- PROVED: the law StrtabPlays's function returns true. Conditions: those that its arguments' reading gives. -/
import Derived.Test.YtonjhnglcffihaaTabTwo
set_option linter.unusedVariables false
set_option linter.unusedSimpArgs false
namespace Go.Proofs.Ytonjhnglcffihaa.Tab
open Go Go.RowKit Go.Proofs.Ytonjhnglcffihaa.Print Go.Proofs.YtonjhnglcffihaaW.PrintWords Go.Proofs.YtonjhnglcffihaaW.PrintLast Go.Proofs.YtonjhnglcffihaaW.PrintMore
abbrev PT (B : Nat) (st : St) : World → (Nat → Prop) → Prop := fun w S => Tab w S B st
abbrev PR (g : Nat) (st : St) : World → (Nat → Prop) → Prop := fun w S => Ref w S g st
abbrev Two (N : Nat) (w : World) (B g : Nat) (st rt : St) : Prop := Duo N w (PT B st) (PR g rt)
theorem Two.cells {N : Nat} {w : World} {B g : Nat} {st rt : St} (h : Two N w B g st rt) : ∃ pr cpr, w.cell? ⟨g, 0, none⟩ = some (.slice pr rt.L.length cpr) ∧ w.cell? ⟨g, 1, none⟩ = some (.int .i64 (rt.n : Int)) := by
  obtain ⟨S, R, t, ⟨o, v, r⟩, _, _⟩ := h
  obtain ⟨c0, c1, _⟩ := r.cells
  obtain ⟨p, cp, hv, _⟩ := ownsRow_val2 r.row
  subst hv
  exact ⟨p, cp, c0, c1⟩
theorem Two.len {N : Nat} {w : World} {B g : Nat} {st rt : St} (h : Two N w B g st rt) : Calls Try.prog 14 #[.pointer (some ⟨B, 0, none⟩)] w fun e w' => e = .returned (.int .i64 (st.L.length : Int)) ∧ w' = w := by
  obtain ⟨S, R, t, r, _, _⟩ := h
  exact Tab.len t
theorem Two.buckets {N : Nat} {w : World} {B g : Nat} {st rt : St} (h : Two N w B g st rt) : Calls Try.prog 13 #[.pointer (some ⟨B, 0, none⟩)] w fun e w' => e = .returned (.int .i64 (st.n : Int)) ∧ w' = w := by
  obtain ⟨S, R, t, r, _, _⟩ := h
  exact Tab.buckets t
theorem Two.below {N : Nat} {w w' : World} {B g : Nat} {st rt : St} (h : Two N w B g st rt) (hb : Below w.heap.size w w') : Two N w' B g st rt := Duo.below h (tab_abides B st) (ref_abides g rt) hb
theorem Two.find {N : Nat} {w : World} {B g : Nat} {st rt : St} {o : Option En} (h : Two N w B g st rt) (s : ByteArray) (hs : s.size ≤ maxLen) (hf : st.find s = o) :
    Calls Try.prog 19 #[.pointer (some ⟨B, 0, none⟩), .string s] w fun e w' => e = .returned (.tuple #[.int .i64 ((o.map En.h).getD 0), .bool o.isSome]) ∧ Below w.heap.size w w' := by
  obtain ⟨S, R, t, r, _, _⟩ := h
  exact Tab.find_as t s hs hf
theorem Two.rfind {N : Nat} {w : World} {B g : Nat} {st rt : St} {o : Option En} (h : Two N w B g st rt) (s : ByteArray) (hf : rt.find s = o) :
    Calls Try.prog 25 #[.pointer (some ⟨g, 0, none⟩), .string s] w fun e w' => e = .returned (.tuple #[.int .i64 ((o.map En.h).getD 0), .bool o.isSome]) ∧ Below w.heap.size w w' := by
  obtain ⟨S, R, t, r, _, _⟩ := h
  exact Ref.find_as r s hf
theorem Two.text {N : Nat} {w : World} {B g : Nat} {st rt : St} {o : Option ByteArray} (h : Two N w B g st rt) (x : Int) (hx : (Lit.int .i64 x).wf = true) (hf : st.text x = o) :
    Calls Try.prog 22 #[.pointer (some ⟨B, 0, none⟩), .int .i64 x] w fun e w' => e = .returned (.tuple #[.string (o.getD ByteArray.empty), .bool o.isSome]) ∧ w' = w := by
  obtain ⟨S, R, t, r, _, _⟩ := h
  have := Tab.text t x hx
  rw [hf] at this
  exact this
theorem Two.rtext {N : Nat} {w : World} {B g : Nat} {st rt : St} {o : Option ByteArray} (h : Two N w B g st rt) (x : Int) (hf : rt.text x = o) :
    Calls Try.prog 26 #[.pointer (some ⟨g, 0, none⟩), .int .i64 x] w fun e w' => e = .returned (.tuple #[.string (o.getD ByteArray.empty), .bool o.isSome]) ∧ Below w.heap.size w w' := by
  obtain ⟨S, R, t, r, _, _⟩ := h
  exact Ref.text_as r x hf
theorem Two.ok {N : Nat} {w : World} {B g : Nat} {st rt : St} (h : Two N w B g st rt) : st.Ok := by
  obtain ⟨S, R, t, r, _, _⟩ := h
  exact t.1
theorem Two.act {N : Nat} {w : World} {B g : Nat} {st rt : St} (h : Two N w B g st rt) (hN : N ≤ w.heap.size) (x : S29) (hs : x.f1.size ≤ maxLen) (hw : (Lit.int .i64 x.f2).wf = true) (hq : st.q + 1 ≤ 1000) :
    Calls Try.prog 12 #[.pointer (some ⟨B, 0, none⟩), .agg #[.int .i64 x.f0, .string x.f1, .int .i64 x.f2]] w fun e w' => e = .returned (.int .i64 (st.actE x)) ∧ Two N w' B g (st.act x) rt ∧ Below N w w' :=
  Duo.left (E := fun e => e = .returned (.int .i64 (st.actE x))) (P' := PT B (st.act x)) h hN (ref_abides g rt) (fun S t => do_calls t x hs hw hq)
theorem Two.ract {N : Nat} {w : World} {B g : Nat} {st rt : St} (h : Two N w B g st rt) (hN : N ≤ w.heap.size) (x : S29) (hs : x.f1.size ≤ maxLen) (hw : (Lit.int .i64 x.f2).wf = true) (hq : rt.q + 1 ≤ 1000) :
    Calls Try.prog 24 #[.pointer (some ⟨g, 0, none⟩), .agg #[.int .i64 x.f0, .string x.f1, .int .i64 x.f2]] w fun e w' => e = .returned (.int .i64 (rt.actE x)) ∧ Two N w' B g st (rt.act x) ∧ Below N w w' := by
  refine (Duo.left (E := fun e => e = .returned (.int .i64 (rt.actE x))) (P' := PR g (rt.act x)) (Duo.swap h) hN (tab_abides B st) (fun S t => asked_calls t x hs hw hq)).mono ?_
  rintro e w' ⟨he, d, b⟩
  exact ⟨he, Duo.swap d, b⟩
theorem Two.new {w w1 w2 : World} {B g : Nat} (h1 : Tab w1 (Btw w.heap.size w1.heap.size) B St.new) (b1 : Below w.heap.size w w1) (h2 : Ref w2 (Btw w1.heap.size w2.heap.size) g St.new) (b2 : Below w1.heap.size w1 w2) : Two w.heap.size w2 B g St.new St.new :=
  ⟨Btw w.heap.size w1.heap.size, Btw w1.heap.size w2.heap.size, Tab.below h1 b2, h2, fun k hk => ⟨hk.1, Nat.lt_of_lt_of_le hk.2 b2.size, fun h => by have := hk.2; have := h.1; omega⟩, fun k hk => ⟨Nat.le_trans b1.size hk.1, hk.2⟩⟩
theorem Two.chain_out {N : Nat} {w : World} {B g : Nat} {st rt : St} (h : Two N w B g st rt) (x : Int) (hx : x < 0 ∨ (st.n : Int) ≤ x) :
    Calls Try.prog 28 #[.pointer (some ⟨B, 0, none⟩), .int .i64 x] w fun e w' => e = .returned (.slice none 0 0) ∧ w' = w := by
  obtain ⟨S, R, t, r, _, _⟩ := h
  exact Tab.chain_out t x hx
theorem Two.chain {N : Nat} {w : World} {B g : Nat} {st rt : St} (h : Two N w B g st rt) (b : Nat) (hb : b < st.n) :
    Calls Try.prog 28 #[.pointer (some ⟨B, 0, none⟩), .int .i64 (b : Int)] w fun e w' => ∃ A cap, e = .returned (.slice A (st.told b).length cap) ∧ Kd.C (Kd.int .i64) w' A (st.told b).length (st.told b) ∧ (st.told b).length ≤ cap ∧ Below w.heap.size w w' := by
  obtain ⟨S, R, t, r, _, _⟩ := h
  exact Tab.chain_in t b hb
theorem Two.rchain_neg {N : Nat} {w : World} {B g : Nat} {st rt : St} (h : Two N w B g st rt) (x : Int) (hx : x < 0) :
    Calls Try.prog 29 #[.pointer (some ⟨g, 0, none⟩), .int .i64 x] w fun e w' => e = .returned (.slice none 0 0) ∧ Below w.heap.size w w' := by
  obtain ⟨S, R, t, r, _, _⟩ := h
  exact Ref.chain_neg r x hx
theorem Two.rchain {N : Nat} {w : World} {B g : Nat} {st rt : St} (h : Two N w B g st rt) (b : Nat) (hb : b ≤ 1048576) :
    Calls Try.prog 29 #[.pointer (some ⟨g, 0, none⟩), .int .i64 (b : Int)] w fun e w' => ∃ A cap, e = .returned (.slice A (rt.told b).length cap) ∧ Kd.C (Kd.int .i64) w' A (rt.told b).length (rt.told b) ∧ (rt.told b).length ≤ cap ∧ Below w.heap.size w w' := by
  obtain ⟨S, R, t, r, _, _⟩ := h
  exact Ref.chain r b hb
theorem Two.rchain_far {N : Nat} {w : World} {B g : Nat} {st rt : St} (h : Two N w B g st rt) (b : Nat) (hb : b ≤ 1048576) (hn : rt.n ≤ b) :
    Calls Try.prog 29 #[.pointer (some ⟨g, 0, none⟩), .int .i64 (b : Int)] w fun e w' => ∃ A cap, e = .returned (.slice A 0 cap) ∧ Kd.C (Kd.int .i64) w' A 0 [] ∧ Below w.heap.size w w' := by
  have o : rt.Ok := by obtain ⟨S, R, t, r, _, _⟩ := h; exact r.1
  have := Two.rchain h b hb
  rw [told_far (by have := o.pos; omega) (by omega) hn] at this
  refine this.mono ?_
  rintro e w' ⟨A, cap, rfl, hC, _, hb⟩
  exact ⟨A, cap, rfl, hC, hb⟩
theorem ints_nil (w : World) (A : Option Addr) (c : Nat) : Calls Try.prog 27 #[.slice none 0 0, .slice none 0 0] w fun e w' => e = .returned (.bool true) ∧ Drawn0 w w' :=
  heirloomlaw03_Ints.calls 1 none 0 [] none 0 [] true w (Kd.C_nil _ _) (Nat.le_refl _) (Kd.C_nil _ _) (Nat.le_refl _) rfl
theorem ints_nil2 {w : World} {A : Option Addr} {c : Nat} (h : Kd.C (Kd.int .i64) w A 0 []) : Calls Try.prog 27 #[.slice none 0 0, .slice A 0 c] w fun e w' => e = .returned (.bool true) ∧ Drawn0 w w' :=
  heirloomlaw03_Ints.calls 1 none 0 [] A c [] true w (Kd.C_nil _ _) (Nat.le_refl _) h (Nat.zero_le _) rfl
set_option maxHeartbeats 8000000 in
set_option maxRecDepth 100000 in
theorem plays_long (A0 : Option Addr) (c0 : Nat) (l0 : List S29) (s : ByteArray) (h : Int) (w : World) (hr0 : Kd.C k29 w A0 l0.length l0) (hc0 : l0.length ≤ c0) (hL : heirloomlaw05_long.f 103 l0 = some true) :
    Calls Try.prog 6 #[.slice A0 l0.length c0, .string s, .int .i64 h] w fun e w' => e = .returned (.bool true) ∧ Below w.heap.size w w' := by
  have HL := Aside0.mk hL
  have HR0 := Aside0.mk hr0
  clear hL hr0
  go_enter Try.func6, Try.ntmps6
  go_wp2_with (first
    | (go_at_call 9; refine (Tab.new _).mono ?_; rintro e w1 ⟨B, rfl, h1, b1⟩; have B1 := Aside0.mk b1; clear h1 b1)
    | (go_at_call 23; refine (ref_new _).mono ?_; rintro e w2 ⟨g, rfl, h2, b2⟩; have B2 := Aside0.mk (B1.out.trans (b2.mono B1.out.size)); clear h2 b2)
    | (go_at_call 10; refine (alive_calls _).mono ?_; rintro e w3 ⟨rfl, b3⟩; have B3 := Aside0.mk (B2.out.trans (b3.mono B2.out.size)); clear b3)
    | (go_at_call 11; refine (heirloomlaw05_long.calls _ A0 c0 l0 true _ (Kd.C_below HR0.out B3.out) hc0 HL.out).mono ?_; rintro e w4 ⟨rfl, d4⟩; obtain ⟨n4, hd4⟩ := d4.out; subst hd4; clear d4))
  go_ret
  exact ⟨rfl, pw_below_drewN B3.out _⟩
set_option maxHeartbeats 8000000 in
set_option maxRecDepth 100000 in
theorem plays_big (A0 : Option Addr) (c0 : Nat) (l0 : List S29) (s : ByteArray) (h : Int) (w : World) (hr0 : Kd.C k29 w A0 l0.length l0) (hc0 : l0.length ≤ c0) (hL : heirloomlaw05_long.f 103 l0 = some false) (hs : (s.size : Int) > 5000) :
    Calls Try.prog 6 #[.slice A0 l0.length c0, .string s, .int .i64 h] w fun e w' => e = .returned (.bool true) ∧ Below w.heap.size w w' := by
  have HL := Aside0.mk hL
  have HR0 := Aside0.mk hr0
  clear hL hr0
  go_enter Try.func6, Try.ntmps6
  go_wp2_with (first
    | (go_at_call 9; refine (Tab.new _).mono ?_; rintro e w1 ⟨B, rfl, h1, b1⟩; have B1 := Aside0.mk b1; clear h1 b1)
    | (go_at_call 23; refine (ref_new _).mono ?_; rintro e w2 ⟨g, rfl, h2, b2⟩; have B2 := Aside0.mk (B1.out.trans (b2.mono B1.out.size)); clear h2 b2)
    | (go_at_call 10; refine (alive_calls _).mono ?_; rintro e w3 ⟨rfl, b3⟩; have B3 := Aside0.mk (B2.out.trans (b3.mono B2.out.size)); clear b3)
    | (go_at_call 11; refine (heirloomlaw05_long.calls _ A0 c0 l0 false _ (Kd.C_below HR0.out B3.out) hc0 HL.out).mono ?_; rintro e w4 ⟨rfl, d4⟩; obtain ⟨n4, hd4⟩ := d4.out; subst hd4; clear d4))
  go_ret
  exact ⟨rfl, pw_below_drewN B3.out _⟩
set_option maxHeartbeats 8000000 in
set_option maxRecDepth 100000 in
theorem plays_go (A0 : Option Addr) (c0 : Nat) (l0 : List S29) (s : ByteArray) (h : Int) (hwf : (Lit.int .i64 h).wf = true) (w : World) (hr0 : Kd.C k29 w A0 l0.length l0) (hc0 : l0.length ≤ c0) (hv : ∀ v ∈ l0, v.f1.size ≤ maxLen ∧ (Lit.int .i64 v.f2).wf = true) (hlen : l0.length ≤ 100) (hL : heirloomlaw05_long.f 103 l0 = some false) (hs : ¬ (s.size : Int) > 5000) :
    Calls Try.prog 6 #[.slice A0 l0.length c0, .string s, .int .i64 h] w fun e w' => e = .returned (.bool true) ∧ Below w.heap.size w w' := by
  have HL := Aside0.mk hL
  have HR0 := Aside0.mk hr0
  have HV := Aside0.mk hv
  have HSM : Aside0 (s.size ≤ maxLen) := ⟨by unfold maxLen; omega⟩
  clear hL hr0 hv
  go_enter Try.func6, Try.ntmps6
  go_wp2_with (first
    | (go_at_call 9; refine (Tab.new _).mono ?_; rintro e w1 ⟨B, rfl, h1, b1⟩; have H1 := Aside0.mk h1; have B1 := Aside0.mk b1; clear h1 b1)
    | (go_at_call 23; refine (ref_new _).mono ?_; rintro e w2 ⟨g, rfl, h2, b2⟩; have HW2 := Aside0.mk (Two.new H1.out B1.out h2 b2); have B2 := Aside0.mk (B1.out.trans (b2.mono B1.out.size)); clear h2 b2)
    | (go_at_call 10; refine (alive_calls _).mono ?_; rintro e w3 ⟨rfl, b3⟩; have HW3 := Aside0.mk (Two.below HW2.out b3); have B3 := Aside0.mk (B2.out.trans (b3.mono B2.out.size)); clear b3)
    | (go_at_call 11; refine (heirloomlaw05_long.calls _ A0 c0 l0 false _ (Kd.C_below HR0.out B3.out) hc0 HL.out).mono ?_; rintro e w4 ⟨rfl, d4⟩; obtain ⟨n4, hd4⟩ := d4.out; have b4 : Below w3.heap.size w3 w4 := hd4 ▸ pw_below_drewN (Below.refl _ _) _; have HW4 := Aside0.mk (Two.below HW3.out b4); have B4 := Aside0.mk (B3.out.trans (b4.mono B3.out.size)); clear d4 hd4 b4))
  clear HW2 HW3 H1 B1 B2 B3
  go_loopw [9] (fun i wr => ∃ q : Nat, q ≤ l0.length ∧ i = .int .i64 q ∧ Aside0 (Two w.heap.size wr B g (run (l0.take q)) (run (l0.take q))) ∧ Aside0 (Below w.heap.size w wr)) (fun i _ => l0.length - (intOf i).toNat)
  case atStart => exact ⟨0, by omega, rfl, ⟨HW4.out⟩, B4⟩
  case round =>
    obtain ⟨q, hq, rfl, HT, HB⟩ := hrel
    by_cases hlt : q < l0.length
    · have hlt0 : (q : Int) < (l0.length : Int) := by omega
      have hq0 : (0 : Int) ≤ (q : Int) := by omega
      obtain ⟨ad, e9, x0, x1, x2⟩ := at_T29 HR0.out (q : Int) (by omega) (by omega)
      cases e9
      simp only [Int.toNat_natCast] at x0 x1 x2
      have hrd : rd_T29 l0 q = l0[q] := by
        unfold rd_T29
        rw [Int.toNat_natCast, List.getD, List.getElem?_eq_getElem hlt]
        rfl
      obtain ⟨hsx, hwx⟩ := HV.out _ (show rd_T29 l0 q ∈ l0 by rw [hrd]; exact List.getElem_mem _)
      have HRUN : Aside0 (run (l0.take (q + 1)) = (run (l0.take q)).act (rd_T29 l0 q)) := ⟨by rw [hrd, ← run_snoc, List.take_succ_eq_append_getElem hlt]⟩
      generalize rd_T29 l0 q = xx at x0 x1 x2 hsx hwx HRUN
      have HX : Aside0 (∀ w', Below w.heap.size w w' → w'.cell? (ad.add (q * 3)) = some (.int .i64 xx.f0) ∧ w'.cell? ⟨(ad.add (q * 3)).block, (ad.add (q * 3)).off + 1, none⟩ = some (.string xx.f1) ∧ w'.cell? ⟨(ad.add (q * 3)).block, (ad.add (q * 3)).off + 2, none⟩ = some (.int .i64 xx.f2)) :=
        ⟨fun w' hb => ⟨(hb.cell (World.block_lt_of_cell? w _ x0)).trans x0, (hb.cell (World.block_lt_of_cell? w _ x1)).trans x1, (hb.cell (World.block_lt_of_cell? w _ x2)).trans x2⟩⟩
      clear x0 x1 x2 hrd
      have hq1 : (run (l0.take q)).q + 1 ≤ 1000 := by have := run_q (l0.take q); rw [List.length_take] at this; omega
      have HDW : Aside0 (Two w.heap.size wr.drew B g (run (l0.take q)) (run (l0.take q))) := ⟨Two.below HT.out ((Below.refl _ _).drew)⟩
      have HZW : Aside0 (w.heap.size ≤ wr.drew.heap.size) := ⟨HB.out.size⟩
      have HDO := Aside0.mk (fun w' (t : Two w.heap.size w' B g (run (l0.take q)) (run (l0.take q))) (hN : w.heap.size ≤ w'.heap.size) => Two.act t hN xx hsx hwx hq1)
      have HDA := Aside0.mk (fun w' (t : Two w.heap.size w' B g ((run (l0.take q)).act xx) (run (l0.take q))) (hN : w.heap.size ≤ w'.heap.size) => Two.ract t hN xx hsx hwx hq1)
      generalize (run (l0.take q)).actE xx = e2 at HDO HDA
      generalize (run (l0.take q)).act xx = s2 at HDO HDA HRUN
      clear hsx hwx hq1
      go_wp2
      refine start_ (n := 32) (S := fun w' => w'.cell? (ad.add (q * 3)) = some (.int .i64 xx.f0) ∧ w'.cell? ⟨(ad.add (q * 3)).block, (ad.add (q * 3)).off + 1, none⟩ = some (.string xx.f1) ∧ w'.cell? ⟨(ad.add (q * 3)).block, (ad.add (q * 3)).off + 2, none⟩ = some (.int .i64 xx.f2)) (ds := [11, 12, 13, 14, 15, 16, 17, 18, 19, 20, 21, 22, 23, 24, 25, 26, 27, 28, 29, 30, 31]) #[false, false, false, false, false, false, false, false, false, false, false, false, false, false, false, false, false, false, false, false, false, false, false, false, false, false, false, false, false, false, false, false] (by kernel_rfl) rfl rfl (HX.out _ HB.out.drew) (fun hHeld => ?_)
      refine pure_ (i := 0) (N := (some 40)) (v := ?_) (a' := ?_) #[true, false, false, false, false, false, false, false, false, false, false, false, false, false, false, false, false, false, false, false, false, false, false, false, false, false, false, false, false, false, false, false] rfl rfl (by kernel_rfl) (fun _ _ _ h => h) (Or.inl ⟨by rfl, ?_⟩) ?_ ?_
      rotate_left
      · intro w'
        go_simp
        with_reducible rfl
      rotate_left
      · simp only [Act.put, List.setIfInBounds_toArray, List.set_cons_zero, List.set_cons_succ, i64_w, i32_w]
        rfl
      refine pure_ (i := 1) (N := (some 41)) (v := ?_) (a' := ?_) #[true, true, false, false, false, false, false, false, false, false, false, false, false, false, false, false, false, false, false, false, false, false, false, false, false, false, false, false, false, false, false, false] rfl rfl (by kernel_rfl) (fun _ _ _ h => h) (Or.inl ⟨by rfl, ?_⟩) ?_ ?_
      rotate_left
      · intro w'
        go_simp
        with_reducible rfl
      rotate_left
      · simp only [Act.put, List.setIfInBounds_toArray, List.set_cons_zero, List.set_cons_succ, i64_w, i32_w]
        rfl
      refine pure_ (i := 2) (N := (some 42)) (v := ?_) (a' := ?_) #[true, true, true, false, false, false, false, false, false, false, false, false, false, false, false, false, false, false, false, false, false, false, false, false, false, false, false, false, false, false, false, false] rfl rfl (by kernel_rfl) (fun _ _ _ h => h) (Or.inl ⟨by rfl, ?_⟩) ?_ ?_
      rotate_left
      · intro w'
        go_simp
        with_reducible rfl
      rotate_left
      · simp only [Act.put, List.setIfInBounds_toArray, List.set_cons_zero, List.set_cons_succ, i64_w, i32_w]
        rfl
      refine pure_ (i := 3) (N := (some 43)) (v := ?_) (a' := ?_) #[true, true, true, true, false, false, false, false, false, false, false, false, false, false, false, false, false, false, false, false, false, false, false, false, false, false, false, false, false, false, false, false] rfl rfl (by kernel_rfl) (fun _ _ _ h => h) (Or.inl ⟨by rfl, ?_⟩) ?_ ?_
      rotate_left
      · intro w'
        go_simp
        with_reducible rfl
      rotate_left
      · simp only [Act.put, List.setIfInBounds_toArray, List.set_cons_zero, List.set_cons_succ, i64_w, i32_w]
        rfl
      refine take_ (i := 4) (N := (some 44)) (v := ?_) (a' := ?_) #[true, true, true, true, true, false, false, false, false, false, false, false, false, false, false, false, false, false, false, false, false, false, false, false, false, false, false, false, false, false, false, false] rfl rfl (by kernel_rfl) (fun _ _ _ h => h) (Or.inl ⟨by rfl, ?_⟩) hHeld ?_ ?_
      rotate_left
      · rintro w' ⟨s0, s1, s2⟩
        go_simp
        with_reducible rfl
      rotate_left
      · simp only [Act.put, List.setIfInBounds_toArray, List.set_cons_zero, List.set_cons_succ, i64_w, i32_w]
        rfl
      refine pure_ (i := 6) (N := (some 46)) (v := ?_) (a' := ?_) #[true, true, true, true, true, false, true, false, false, false, false, false, false, false, false, false, false, false, false, false, false, false, false, false, false, false, false, false, false, false, false, false] rfl rfl (by kernel_rfl) (fun _ _ _ h => h) (Or.inl ⟨by rfl, ?_⟩) ?_ ?_
      rotate_left
      · intro w'
        go_simp
        with_reducible rfl
      rotate_left
      · simp only [Act.put, List.setIfInBounds_toArray, List.set_cons_zero, List.set_cons_succ, i64_w, i32_w]
        rfl
      refine pure_ (i := 7) (N := (some 47)) (v := ?_) (a' := ?_) #[true, true, true, true, true, false, true, true, false, false, false, false, false, false, false, false, false, false, false, false, false, false, false, false, false, false, false, false, false, false, false, false] rfl rfl (by kernel_rfl) (fun _ _ _ h => h) (Or.inl ⟨by rfl, ?_⟩) ?_ ?_
      rotate_left
      · intro w'
        go_simp
        with_reducible rfl
      rotate_left
      · simp only [Act.put, List.setIfInBounds_toArray, List.set_cons_zero, List.set_cons_succ, i64_w, i32_w]
        rfl
      refine pure_ (i := 8) (N := (some 48)) (v := ?_) (a' := ?_) #[true, true, true, true, true, false, true, true, true, false, false, false, false, false, false, false, false, false, false, false, false, false, false, false, false, false, false, false, false, false, false, false] rfl rfl (by kernel_rfl) (fun _ _ _ h => h) (Or.inl ⟨by rfl, ?_⟩) ?_ ?_
      rotate_left
      · intro w'
        go_simp
        with_reducible rfl
      rotate_left
      · simp only [Act.put, List.setIfInBounds_toArray, List.set_cons_zero, List.set_cons_succ, i64_w, i32_w]
        rfl
      refine pure_ (i := 9) (N := (some 49)) (v := ?_) (a' := ?_) #[true, true, true, true, true, false, true, true, true, true, false, false, false, false, false, false, false, false, false, false, false, false, false, false, false, false, false, false, false, false, false, false] rfl rfl (by kernel_rfl) (fun _ _ _ h => h) (Or.inl ⟨by rfl, ?_⟩) ?_ ?_
      rotate_left
      · intro w'
        go_simp
        with_reducible rfl
      rotate_left
      · simp only [Act.put, List.setIfInBounds_toArray, List.set_cons_zero, List.set_cons_succ, i64_w, i32_w]
        rfl
      refine take_ (i := 10) (N := (some 50)) (v := ?_) (a' := ?_) #[true, true, true, true, true, false, true, true, true, true, true, false, false, false, false, false, false, false, false, false, false, false, false, false, false, false, false, false, false, false, false, false] rfl rfl (by kernel_rfl) (fun _ _ _ h => h) (Or.inl ⟨by rfl, ?_⟩) hHeld ?_ ?_
      rotate_left
      · rintro w' ⟨s0, s1, s2⟩
        go_simp
        with_reducible rfl
      rotate_left
      · simp only [Act.put, List.setIfInBounds_toArray, List.set_cons_zero, List.set_cons_succ, i64_w, i32_w]
        rfl
      refine one_ (i := 5) (N := (some 45)) #[true, true, true, true, true, true, true, true, true, true, true, false, false, false, false, false, false, false, false, false, false, false, false, false, false, false, false, false, false, false, false, false] rfl rfl (by kernel_rfl) (by decide) (fun K hK => ?_)
      refine goes_ Try.func12 (by kernel_rfl) rfl #[.pointer (some ⟨B, 0, none⟩), .agg #[.int .i64 xx.f0, .string xx.f1, .int .i64 xx.f2]] (by rfl) rfl rfl (by first | rfl | (simp [Act.eval]; done) | (go_simp; done)) ?_
      refine (HDO.out _ HDW.out HZW.out).mono ?_
      rintro e w5 ⟨rfl, d5, b5⟩
      have HDW5 := Aside0.mk d5
      have HB5 := Aside0.mk ((HB.out.drew).trans b5)
      refine ⟨_, rfl, hK.out _ _ (HX.out _ HB5.out) (fun hHeld => ?_)⟩
      clear d5 b5 hK K
      refine norm_ (a' := ?_) ?_ ?_
      rotate_left
      · simp only [Act.put, List.setIfInBounds_toArray, List.set_cons_zero, List.set_cons_succ, i64_w, i32_w]
        rfl
      refine last_ (i := 11) (N := (some 51)) #[true, true, true, true, true, true, true, true, true, true, true, true, false, false, false, false, false, false, false, false, false, false, false, false, false, false, false, false, false, false, false, false] rfl rfl (by kernel_rfl) (by decide) (fun K hK => ?_)
      refine goes_ Try.func24 (by kernel_rfl) rfl #[.pointer (some ⟨g, 0, none⟩), .agg #[.int .i64 xx.f0, .string xx.f1, .int .i64 xx.f2]] (by rfl) rfl rfl (by first | rfl | (simp [Act.eval]; done) | (go_simp; done)) ?_
      refine (HDA.out _ HDW5.out HB5.out.size).mono ?_
      rintro e w6 ⟨rfl, d6, b6⟩
      have HDW6 := Aside0.mk d6
      have HB6 := Aside0.mk (HB5.out.trans b6)
      refine ⟨_, rfl, hK.out _ _ ?_⟩
      clear d6 b6 hK K hHeld
      obtain ⟨pr, cpr, hHeld⟩ : ∃ pr cpr, (fun w' => w'.cell? ⟨g, 0, none⟩ = some (.slice pr s2.L.length cpr) ∧ w'.cell? ⟨g, 1, none⟩ = some (.int .i64 (s2.n : Int))) w6 := Two.cells HDW6.out
      refine turn_ (S' := fun w' => w'.cell? ⟨g, 0, none⟩ = some (.slice pr s2.L.length cpr) ∧ w'.cell? ⟨g, 1, none⟩ = some (.int .i64 (s2.n : Int))) (ds' := []) (left_of (by kernel_rfl)) ?_
      refine norm_ (a' := ?_) ?_ ?_
      rotate_left
      · simp only [Act.put, List.setIfInBounds_toArray, List.set_cons_zero, List.set_cons_succ, i64_w, i32_w]
        rfl
      refine pure_ (i := 12) (N := (some 52)) (v := .bool false) (a' := ?_) #[true, true, true, true, true, true, true, true, true, true, true, true, true, false, false, false, false, false, false, false, false, false, false, false, false, false, false, false, false, false, false, false] rfl rfl (by kernel_rfl) (fun _ _ _ h => h) (Or.inl ⟨by rfl, ?_⟩) ?_ ?_
      skip
      · intro w'
        (go_simp) <;> (first | (with_reducible rfl) | (simp; done) | rfl)
      rotate_left
      · simp only [Act.put, List.setIfInBounds_toArray, List.set_cons_zero, List.set_cons_succ, i64_w, i32_w]
        rfl
      refine pure_ (i := 13) (N := (some 53)) (v := ?_) (a' := ?_) #[true, true, true, true, true, true, true, true, true, true, true, true, true, true, false, false, false, false, false, false, false, false, false, false, false, false, false, false, false, false, false, false] rfl rfl (by kernel_rfl) (fun _ _ _ h => h) (Or.inl ⟨by rfl, ?_⟩) ?_ ?_
      rotate_left
      · intro w'
        go_simp
        with_reducible rfl
      rotate_left
      · simp only [Act.put, List.setIfInBounds_toArray, List.set_cons_zero, List.set_cons_succ, i64_w, i32_w]
        rfl
      refine pure_ (i := 14) (N := (some 54)) (v := ?_) (a' := ?_) #[true, true, true, true, true, true, true, true, true, true, true, true, true, true, true, false, false, false, false, false, false, false, false, false, false, false, false, false, false, false, false, false] rfl rfl (by kernel_rfl) (fun _ _ _ h => h) (Or.inl ⟨by rfl, ?_⟩) ?_ ?_
      rotate_left
      · intro w'
        go_simp
        with_reducible rfl
      rotate_left
      · simp only [Act.put, List.setIfInBounds_toArray, List.set_cons_zero, List.set_cons_succ, i64_w, i32_w]
        rfl
      refine pure_ (i := 16) (N := (some 56)) (v := ?_) (a' := ?_) #[true, true, true, true, true, true, true, true, true, true, true, true, true, true, true, false, true, false, false, false, false, false, false, false, false, false, false, false, false, false, false, false] rfl rfl (by kernel_rfl) (fun _ _ _ h => h) (Or.inl ⟨by rfl, ?_⟩) ?_ ?_
      rotate_left
      · intro w'
        go_simp
        with_reducible rfl
      rotate_left
      · simp only [Act.put, List.setIfInBounds_toArray, List.set_cons_zero, List.set_cons_succ, i64_w, i32_w]
        rfl
      refine pure_ (i := 17) (N := (some 57)) (v := ?_) (a' := ?_) #[true, true, true, true, true, true, true, true, true, true, true, true, true, true, true, false, true, true, false, false, false, false, false, false, false, false, false, false, false, false, false, false] rfl rfl (by kernel_rfl) (fun _ _ _ h => h) (Or.inl ⟨by rfl, ?_⟩) ?_ ?_
      rotate_left
      · intro w'
        go_simp
        with_reducible rfl
      rotate_left
      · simp only [Act.put, List.setIfInBounds_toArray, List.set_cons_zero, List.set_cons_succ, i64_w, i32_w]
        rfl
      refine pure_ (i := 18) (N := (some 58)) (v := ?_) (a' := ?_) #[true, true, true, true, true, true, true, true, true, true, true, true, true, true, true, false, true, true, true, false, false, false, false, false, false, false, false, false, false, false, false, false] rfl rfl (by kernel_rfl) (fun _ _ _ h => h) (Or.inl ⟨by rfl, ?_⟩) ?_ ?_
      rotate_left
      · intro w'
        go_simp
        with_reducible rfl
      rotate_left
      · simp only [Act.put, List.setIfInBounds_toArray, List.set_cons_zero, List.set_cons_succ, i64_w, i32_w]
        rfl
      refine take_ (i := 19) (N := (some 59)) (v := ?_) (a' := ?_) #[true, true, true, true, true, true, true, true, true, true, true, true, true, true, true, false, true, true, true, true, false, false, false, false, false, false, false, false, false, false, false, false] rfl rfl (by kernel_rfl) (fun _ _ _ h => h) (Or.inl ⟨by rfl, ?_⟩) hHeld ?_ ?_
      rotate_left
      · rintro w' ⟨s0, s1⟩
        go_simp
        with_reducible rfl
      rotate_left
      · simp only [Act.put, List.setIfInBounds_toArray, List.set_cons_zero, List.set_cons_succ, i64_w, i32_w]
        rfl
      refine pure_ (i := 20) (N := (some 60)) (v := ?_) (a' := ?_) #[true, true, true, true, true, true, true, true, true, true, true, true, true, true, true, false, true, true, true, true, true, false, false, false, false, false, false, false, false, false, false, false] rfl rfl (by kernel_rfl) (fun _ _ _ h => h) (Or.inl ⟨by rfl, ?_⟩) ?_ ?_
      rotate_left
      · intro w'
        go_simp
        with_reducible rfl
      rotate_left
      · simp only [Act.put, List.setIfInBounds_toArray, List.set_cons_zero, List.set_cons_succ, i64_w, i32_w]
        rfl
      refine one_ (i := 15) (N := (some 55)) #[true, true, true, true, true, true, true, true, true, true, true, true, true, true, true, true, true, true, true, true, true, false, false, false, false, false, false, false, false, false, false, false] rfl rfl (by kernel_rfl) (by decide) (fun K hK => ?_)
      refine goes_ Try.func14 (by kernel_rfl) rfl #[.pointer (some ⟨B, 0, none⟩)] (by rfl) rfl rfl (by first | rfl | (simp [Act.eval]; done) | (go_simp; done)) ?_
      refine (Two.len HDW6.out).mono ?_
      rintro e w7 ⟨rfl, hw7⟩
      have hw7 := hw7.symm
      subst hw7
      refine ⟨_, rfl, hK.out _ _ hHeld (fun hHeld => ?_)⟩
      clear hK K hw7
      refine norm_ (a' := ?_) ?_ ?_
      rotate_left
      · simp only [Act.put, List.setIfInBounds_toArray, List.set_cons_zero, List.set_cons_succ, i64_w, i32_w]
        rfl
      refine pure_ (i := 21) (N := (some 61)) (v := .bool false) (a' := ?_) #[true, true, true, true, true, true, true, true, true, true, true, true, true, true, true, true, true, true, true, true, true, true, false, false, false, false, false, false, false, false, false, false] rfl rfl (by kernel_rfl) (fun _ _ _ h => h) (Or.inl ⟨by rfl, ?_⟩) ?_ ?_
      skip
      · intro w'
        (go_simp) <;> (first | (with_reducible rfl) | (simp; done) | rfl)
      rotate_left
      · simp only [Act.put, List.setIfInBounds_toArray, List.set_cons_zero, List.set_cons_succ, i64_w, i32_w]
        rfl
      refine pure_ (i := 22) (N := (some 62)) (v := ?_) (a' := ?_) #[true, true, true, true, true, true, true, true, true, true, true, true, true, true, true, true, true, true, true, true, true, true, true, false, false, false, false, false, false, false, false, false] rfl rfl (by kernel_rfl) (fun _ _ _ h => h) (Or.inl ⟨by rfl, ?_⟩) ?_ ?_
      rotate_left
      · intro w'
        go_simp
        with_reducible rfl
      rotate_left
      · simp only [Act.put, List.setIfInBounds_toArray, List.set_cons_zero, List.set_cons_succ, i64_w, i32_w]
        rfl
      refine pure_ (i := 23) (N := (some 63)) (v := ?_) (a' := ?_) #[true, true, true, true, true, true, true, true, true, true, true, true, true, true, true, true, true, true, true, true, true, true, true, true, false, false, false, false, false, false, false, false] rfl rfl (by kernel_rfl) (fun _ _ _ h => h) (Or.inl ⟨by rfl, ?_⟩) ?_ ?_
      rotate_left
      · intro w'
        go_simp
        with_reducible rfl
      rotate_left
      · simp only [Act.put, List.setIfInBounds_toArray, List.set_cons_zero, List.set_cons_succ, i64_w, i32_w]
        rfl
      refine pure_ (i := 24) (N := (some 64)) (v := ?_) (a' := ?_) #[true, true, true, true, true, true, true, true, true, true, true, true, true, true, true, true, true, true, true, true, true, true, true, true, true, false, false, false, false, false, false, false] rfl rfl (by kernel_rfl) (fun _ _ _ h => h) (Or.inl ⟨by rfl, ?_⟩) ?_ ?_
      rotate_left
      · intro w'
        go_simp
        with_reducible rfl
      rotate_left
      · simp only [Act.put, List.setIfInBounds_toArray, List.set_cons_zero, List.set_cons_succ, i64_w, i32_w]
        rfl
      refine pure_ (i := 26) (N := (some 66)) (v := ?_) (a' := ?_) #[true, true, true, true, true, true, true, true, true, true, true, true, true, true, true, true, true, true, true, true, true, true, true, true, true, false, true, false, false, false, false, false] rfl rfl (by kernel_rfl) (fun _ _ _ h => h) (Or.inl ⟨by rfl, ?_⟩) ?_ ?_
      rotate_left
      · intro w'
        go_simp
        with_reducible rfl
      rotate_left
      · simp only [Act.put, List.setIfInBounds_toArray, List.set_cons_zero, List.set_cons_succ, i64_w, i32_w]
        rfl
      refine pure_ (i := 27) (N := (some 67)) (v := ?_) (a' := ?_) #[true, true, true, true, true, true, true, true, true, true, true, true, true, true, true, true, true, true, true, true, true, true, true, true, true, false, true, true, false, false, false, false] rfl rfl (by kernel_rfl) (fun _ _ _ h => h) (Or.inl ⟨by rfl, ?_⟩) ?_ ?_
      rotate_left
      · intro w'
        go_simp
        with_reducible rfl
      rotate_left
      · simp only [Act.put, List.setIfInBounds_toArray, List.set_cons_zero, List.set_cons_succ, i64_w, i32_w]
        rfl
      refine pure_ (i := 28) (N := (some 68)) (v := ?_) (a' := ?_) #[true, true, true, true, true, true, true, true, true, true, true, true, true, true, true, true, true, true, true, true, true, true, true, true, true, false, true, true, true, false, false, false] rfl rfl (by kernel_rfl) (fun _ _ _ h => h) (Or.inl ⟨by rfl, ?_⟩) ?_ ?_
      rotate_left
      · intro w'
        go_simp
        with_reducible rfl
      rotate_left
      · simp only [Act.put, List.setIfInBounds_toArray, List.set_cons_zero, List.set_cons_succ, i64_w, i32_w]
        rfl
      refine take_ (i := 29) (N := (some 69)) (v := ?_) (a' := ?_) #[true, true, true, true, true, true, true, true, true, true, true, true, true, true, true, true, true, true, true, true, true, true, true, true, true, false, true, true, true, true, false, false] rfl rfl (by kernel_rfl) (fun _ _ _ h => h) (Or.inl ⟨by rfl, ?_⟩) hHeld ?_ ?_
      rotate_left
      · rintro w' ⟨s0, s1⟩
        go_simp
        with_reducible rfl
      rotate_left
      · simp only [Act.put, List.setIfInBounds_toArray, List.set_cons_zero, List.set_cons_succ, i64_w, i32_w]
        rfl
      refine one_ (i := 25) (N := (some 65)) #[true, true, true, true, true, true, true, true, true, true, true, true, true, true, true, true, true, true, true, true, true, true, true, true, true, true, true, true, true, true, false, false] rfl rfl (by kernel_rfl) (by decide) (fun K hK => ?_)
      refine goes_ Try.func13 (by kernel_rfl) rfl #[.pointer (some ⟨B, 0, none⟩)] (by rfl) rfl rfl (by first | rfl | (simp [Act.eval]; done) | (go_simp; done)) ?_
      refine (Two.buckets HDW6.out).mono ?_
      rintro e w7 ⟨rfl, hw7⟩
      have hw7 := hw7.symm
      subst hw7
      refine ⟨_, rfl, hK.out _ _ hHeld (fun hHeld => ?_)⟩
      clear hK K hw7
      refine norm_ (a' := ?_) ?_ ?_
      rotate_left
      · simp only [Act.put, List.setIfInBounds_toArray, List.set_cons_zero, List.set_cons_succ, i64_w, i32_w]
        rfl
      refine pure_ (i := 30) (N := (some 70)) (v := .bool false) (a' := ?_) #[true, true, true, true, true, true, true, true, true, true, true, true, true, true, true, true, true, true, true, true, true, true, true, true, true, true, true, true, true, true, true, false] rfl rfl (by kernel_rfl) (fun _ _ _ h => h) (Or.inl ⟨by rfl, ?_⟩) ?_ ?_
      skip
      · intro w'
        (go_simp) <;> (first | (with_reducible rfl) | (simp; done) | rfl)
      rotate_left
      · simp only [Act.put, List.setIfInBounds_toArray, List.set_cons_zero, List.set_cons_succ, i64_w, i32_w]
        rfl
      refine pure_ (i := 31) (N := (some 71)) (v := ?_) (a' := ?_) #[true, true, true, true, true, true, true, true, true, true, true, true, true, true, true, true, true, true, true, true, true, true, true, true, true, true, true, true, true, true, true, true] rfl rfl (by kernel_rfl) (fun _ _ _ h => h) (Or.inl ⟨by rfl, ?_⟩) ?_ ?_
      rotate_left
      · intro w'
        go_simp
        with_reducible rfl
      rotate_left
      · simp only [Act.put, List.setIfInBounds_toArray, List.set_cons_zero, List.set_cons_succ, i64_w, i32_w]
        rfl
      refine done_ (by kernel_rfl) ?_
      clear hHeld HDW5 HB5 HDO HDA HX HT HDW HZW
      obtain ⟨of, HOF⟩ : ∃ o, Aside0 (s2.find s = o) := ⟨_, ⟨rfl⟩⟩
      obtain ⟨ot, HOT⟩ : ∃ o, Aside0 (s2.text h = o) := ⟨_, ⟨rfl⟩⟩
      have f1 : (((of.map En.h).getD 0 : Int) != (of.map En.h).getD 0) = false := by simp
      have f2 : (of.isSome != of.isSome) = false := by simp
      have f3 : ((ot.getD ByteArray.empty).toList == (ot.getD ByteArray.empty).toList) = true := by simp
      have f4 : ((ot.getD ByteArray.empty).toList != (ot.getD ByteArray.empty).toList) = false := by simp
      have f5 : (ot.isSome != ot.isSome) = false := by simp
      have OK := Aside0.mk (Two.ok HDW6.out)
      have hn5 : s2.n ≤ 1048576 := by have := OK.out.few; have := OK.out.q; omega
      have hn4 := OK.out.pos
      go_wp2_with (first
        | (go_at_call 19; refine (Two.find HDW6.out s HSM.out HOF.out).mono ?_; rintro e w7 ⟨rfl, b7⟩; have HW7 := Aside0.mk (Two.below HDW6.out b7); have B7 := Aside0.mk (HB6.out.trans (b7.mono HB6.out.size)); clear b7)
        | (go_at_call 25; refine (Two.rfind HW7.out s HOF.out).mono ?_; rintro e w8 ⟨rfl, b8⟩; have HW8 := Aside0.mk (Two.below HW7.out b8); have B8 := Aside0.mk (B7.out.trans (b8.mono B7.out.size)); clear b8)
        | (go_at_call 22; refine (Two.text HW8.out h hwf HOT.out).mono ?_; rintro e w9 ⟨rfl, hw9⟩; have hw9 := hw9.symm; subst hw9)
        | (go_at_call 26; refine (Two.rtext HW8.out h HOT.out).mono ?_; rintro e w10 ⟨rfl, b10⟩; have HW10 := Aside0.mk (Two.below HW8.out b10); have B10 := Aside0.mk (B8.out.trans (b10.mono B8.out.size)); clear b10))
      clear f1 f2 f3 f4 f5 HOF HOT HDW6 HB6 HW7 HW8 B7 B8
      have hwq : Aside0 (wrap64 ((q : Int) + 1) = ((q + 1 : Nat) : Int)) := ⟨wrap_nat_succ q (by omega)⟩
      go_loopw [18] (fun i wt => ∃ j : Nat, j ≤ s2.n + 2 ∧ i = .int .i64 ((j : Int) - 1) ∧ Aside0 (Below w10.heap.size w10 wt)) (fun i _ => ((s2.n : Int) + 1 - intOf i).toNat)
      case atStart => exact ⟨0, by omega, rfl, ⟨Below.refl _ _⟩⟩
      case round =>
        obtain ⟨j, hj, rfl, HBt⟩ := hrel
        have HWt := Aside0.mk (Two.below HW10.out HBt.out)
        obtain ⟨_, _, _, k1⟩ := Two.cells HWt.out
        rcases Nat.lt_or_ge (s2.n + 1) j with hj1 | hj1
        · have hle : ¬ ((j : Int) - 1 ≤ (s2.n : Int)) := by omega
          go_wp2
          first
            | exact ⟨⟨q + 1, hlt, rfl, ⟨by rw [HRUN.out]; exact HWt.out⟩, ⟨B10.out.trans (HBt.out.mono B10.out.size)⟩⟩, by show l0.length - ((q + 1 : Nat) : Int).toNat < l0.length - (q : Int).toNat; omega⟩
            | (rw [hwq.out]; exact ⟨⟨q + 1, hlt, rfl, ⟨by rw [HRUN.out]; exact HWt.out⟩, ⟨B10.out.trans (HBt.out.mono B10.out.size)⟩⟩, by show l0.length - ((q + 1 : Nat) : Int).toNat < l0.length - (q : Int).toNat; omega⟩)
        · have hle : ((j : Int) - 1 ≤ (s2.n : Int)) := by omega
          cases j with
          | zero =>
            rw [show (((0 : Nat) : Int) - 1) = -1 from rfl] at hle ⊢
            go_wp2_with (first
              | (go_at_call 28; refine (Two.chain_out HWt.out (-1) (Or.inl (by decide))).mono ?_; rintro e w11 ⟨rfl, hw11⟩; have hw11 := hw11.symm; subst hw11)
              | (go_at_call 29; refine (Two.rchain_neg HWt.out (-1) (by decide)).mono ?_; rintro e w12 ⟨rfl, b12⟩; have HBu := Aside0.mk (HBt.out.trans (b12.mono HBt.out.size)); clear b12)
              | (go_at_call 27; refine (ints_nil _ none 0).mono ?_; rintro e w13 ⟨rfl, d13⟩; obtain ⟨n13, hd13⟩ := d13.out; have HBv : Aside0 (Below w10.heap.size w10 w13) := ⟨hd13 ▸ pw_below_drewN HBu.out _⟩; clear d13 hd13))
            exact ⟨⟨1, by omega, rfl, HBv⟩, by show ((s2.n : Int) + 1 - 0).toNat < ((s2.n : Int) + 1 - (-1)).toNat; omega⟩
          | succ b =>
            have er : (((b + 1 : Nat) : Int) - 1) = (b : Int) := by omega
            rw [er] at hle ⊢
            have hwb : Aside0 (wrap64 ((b : Int) + 1) = ((b + 2 : Nat) : Int) - 1) := ⟨by unfold wrap64; omega⟩
            have hb0 : (0 : Int) ≤ (b : Int) := by omega
            rcases Nat.lt_or_ge b s2.n with hbn | hbn
            · have HTL : Aside0 ((s2.told b).length ≤ 1000) := ⟨by rw [told_length]; exact Nat.le_trans (List.length_filter_le _ _) (Nat.le_trans OK.out.many OK.out.q)⟩
              go_wp2_with (first
                | (go_at_call 28; refine (Two.chain HWt.out b hbn).mono ?_; rintro e w11 ⟨A1, c1, rfl, hC1, hcc1, b11⟩; have HC1 := Aside0.mk hC1; have HW11 := Aside0.mk (Two.below HWt.out b11); have HBs := Aside0.mk (HBt.out.trans (b11.mono HBt.out.size)); clear hC1 b11)
                | (go_at_call 29; refine (Two.rchain HW11.out b (by omega)).mono ?_; rintro e w12 ⟨A2, c2, rfl, hC2, hcc2, b12⟩; have HC2 := Aside0.mk hC2; have HC3 := Aside0.mk (Kd.C_below HC1.out b12); have HBu := Aside0.mk (HBs.out.trans (b12.mono HBs.out.size)); clear b12 hC2)
                | (go_at_call 27; refine (heirloomlaw03_Ints.calls _ A1 c1 (s2.told b) A2 c2 (s2.told b) true _ HC3.out hcc1 HC2.out hcc2 (ints_same _ HTL.out)).mono ?_; rintro e w13 ⟨rfl, d13⟩; obtain ⟨n13, hd13⟩ := d13.out; have HBv : Aside0 (Below w10.heap.size w10 w13) := ⟨hd13 ▸ pw_below_drewN HBu.out _⟩; clear d13 hd13))
              first | rw [hwb.out] | skip
              exact ⟨⟨b + 2, by omega, by first | rfl | (congr 1; omega), HBv⟩, by first | (show ((s2.n : Int) + 1 - (((b + 2 : Nat) : Int) - 1)).toNat < ((s2.n : Int) + 1 - (b : Int)).toNat; omega) | (show ((s2.n : Int) + 1 - ((b : Int) + 1)).toNat < ((s2.n : Int) + 1 - (b : Int)).toNat; omega)⟩
            · go_wp2_with (first
                | (go_at_call 28; refine (Two.chain_out HWt.out (b : Int) (Or.inr (by omega))).mono ?_; rintro e w11 ⟨rfl, hw11⟩; have hw11 := hw11.symm; subst hw11)
                | (go_at_call 29; refine (Two.rchain_far HWt.out b (by omega) hbn).mono ?_; rintro e w12 ⟨A2, c2, rfl, hC2, b12⟩; have HC2 := Aside0.mk hC2; have HBu := Aside0.mk (HBt.out.trans (b12.mono HBt.out.size)); clear b12 hC2)
                | (go_at_call 27; refine (ints_nil2 HC2.out).mono ?_; rintro e w13 ⟨rfl, d13⟩; obtain ⟨n13, hd13⟩ := d13.out; have HBv : Aside0 (Below w10.heap.size w10 w13) := ⟨hd13 ▸ pw_below_drewN HBu.out _⟩; clear d13 hd13))
              first | rw [hwb.out] | skip
              exact ⟨⟨b + 2, by omega, by first | rfl | (congr 1; omega), HBv⟩, by first | (show ((s2.n : Int) + 1 - (((b + 2 : Nat) : Int) - 1)).toNat < ((s2.n : Int) + 1 - (b : Int)).toNat; omega) | (show ((s2.n : Int) + 1 - ((b : Int) + 1)).toNat < ((s2.n : Int) + 1 - (b : Int)).toNat; omega)⟩
    · have hlt0 : ¬ (q : Int) < (l0.length : Int) := by omega
      go_wp2
      go_ret
      exact ⟨rfl, HB.out⟩
theorem plays_walk (A0 : Option Addr) (c0 : Nat) (l0 : List S29) (s : ByteArray) (h : Int) (hwf : (Lit.int .i64 h).wf = true) (w : World) (hr0 : Kd.C k29 w A0 l0.length l0) (hc0 : l0.length ≤ c0) (hv : ∀ v ∈ l0, v.f1.size ≤ maxLen ∧ (Lit.int .i64 v.f2).wf = true) :
    Calls Try.prog 6 #[.slice A0 l0.length c0, .string s, .int .i64 h] w fun e w' => e = .returned (.bool true) ∧ Below w.heap.size w w' := by
  obtain ⟨b, hL, hb⟩ := long_some l0
  cases b with
  | true => exact plays_long A0 c0 l0 s h w hr0 hc0 hL
  | false =>
    by_cases hs : (s.size : Int) > 5000
    · exact plays_big A0 c0 l0 s h w hr0 hc0 hL hs
    · exact plays_go A0 c0 l0 s h hwf w hr0 hc0 hv (hb rfl) hL hs
end Go.Proofs.Ytonjhnglcffihaa.Tab
