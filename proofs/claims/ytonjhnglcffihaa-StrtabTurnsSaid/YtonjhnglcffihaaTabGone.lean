/- PROVED: the law StrtabGone's function returns true. Conditions: those that its arguments' reading gives. -/
import Derived.Test.YtonjhnglcffihaaTabMade
import Derived.Test.YtonjhnglcffihaaTabSpreads
set_option linter.unusedVariables false
set_option linter.unusedSimpArgs false
namespace Go.Proofs.Ytonjhnglcffihaa.Tab
open Go Go.RowKit Go.Proofs.Ytonjhnglcffihaa.Print Go.Proofs.YtonjhnglcffihaaW.PrintWords Go.Proofs.YtonjhnglcffihaaW.PrintLast Go.Proofs.YtonjhnglcffihaaW.PrintMore
theorem pw_get {L : List En} (o : L.Pairwise fun x y => x.s ≠ y.s ∧ x.h ≠ y.h) {a b : En} (ha : a ∈ L) (hb : b ∈ L) (h : a.s = b.s ∨ a.h = b.h) : a = b := by
  obtain ⟨i, hi, rfl⟩ := List.mem_iff_getElem.1 ha
  obtain ⟨j, hj, rfl⟩ := List.mem_iff_getElem.1 hb
  have hp := List.pairwise_iff_getElem.1 o
  rcases Nat.lt_trichotomy i j with h1 | h1 | h1
  · have := hp i j hi hj h1
    rcases h with h | h
    · exact absurd h this.1
    · exact absurd h this.2
  · subst h1; rfl
  · have := hp j i hj hi h1
    rcases h with h | h
    · exact absurd h.symm this.1
    · exact absurd h.symm this.2
theorem find_filter_mem {α : Type} {p f : α → Bool} : ∀ (L : List α), (∀ z ∈ L, f z = true → p z = true) → (L.filter p).find? f = L.find? f
  | [], _ => rfl
  | z :: L, h => by
    have ih := find_filter_mem L (fun u hu => h u (by simp [hu]))
    by_cases hf : f z = true
    · rw [List.filter_cons_of_pos (h z (by simp) hf), List.find?_cons_of_pos hf, List.find?_cons_of_pos hf]
    · rw [List.find?_cons_of_neg hf]
      by_cases hp : p z = true
      · rw [List.filter_cons_of_pos hp, List.find?_cons_of_neg hf, ih]
      · rw [List.filter_cons_of_neg hp, ih]
theorem filter_lt {p : En → Bool} : ∀ (L : List En) (y : En), y ∈ L → p y = false → (L.filter p).length < L.length
  | [], y, h, _ => by simp at h
  | z :: L, y, h, hp => by
    have hl' := List.length_filter_le p L
    by_cases hz : p z = true
    · have hy : y ∈ L := by
        rcases List.mem_cons.1 h with e | h
        · subst e; rw [hz] at hp; cases hp
        · exact h
      rw [List.filter_cons_of_pos hz]
      exact Nat.succ_lt_succ (filter_lt L y hy hp)
    · rw [List.filter_cons_of_neg hz]; exact Nat.lt_succ_of_le hl'
structure GoneF (st : St) (h : Int) (s0 : ByteArray) : Prop where
  one : 1 ≤ h
  st' : st.drop h = st.del h
  e : st.dropE h = 0
  was : (st.del h).find s0 = none
  text : (st.del h).text h = none
  len : (st.del h).L.length + 1 = st.L.length
  other : ∀ s, s ≠ s0 → (st.del h).find s = st.find s
theorem gone_facts {st : St} (o : st.Ok) {h : Int} {s0 : ByteArray} (ht : st.text h = some s0) : GoneF st h s0 := by
  obtain ⟨y, hy, hyh, hys⟩ := St.text_some ht
  have hi : (st.text h).isSome = true := by rw [ht]; rfl
  have hfl := filter_len o h
  refine ⟨hyh ▸ (o.wf y hy).2, by unfold St.drop; rw [if_pos hi], by unfold St.dropE; rw [if_pos hi], ?_, ?_, ?_, fun s hs => ?_⟩
  · unfold St.find St.del
    rw [List.find?_eq_none]
    intro z hz e
    obtain ⟨hzL, hzh⟩ := List.mem_filter.1 hz
    have hzs : z.s = s0 := by simpa using e
    have := pw_get o.once hzL hy (Or.inl (hzs.trans hys.symm))
    subst this
    simp [hyh] at hzh
  · unfold St.text St.del
    rw [Option.map_eq_none_iff, List.find?_eq_none]
    intro z hz e
    obtain ⟨hzL, hzh⟩ := List.mem_filter.1 hz
    have hze : z.h = h := by simpa using e
    simp [hze] at hzh
  · have := filter_lt (p := fun y => !(y.h == h)) st.L y hy (by simp [hyh])
    unfold St.del
    show (st.L.filter fun y => !(y.h == h)).length + 1 = st.L.length
    omega
  · unfold St.find St.del
    refine find_filter_mem _ (fun z hz e => ?_)
    have hzs : z.s = s := by simpa using e
    simp only [Bool.not_eq_true', beq_eq_false_iff_ne]
    intro hzh
    have := pw_get o.once hz hy (Or.inr (hzh.trans hyh.symm))
    subst this
    exact hs (hzs.symm.trans hys)
def bufsOf (s : ByteArray) : Bool := decide ((s.size : Int) > 5000)
set_option maxHeartbeats 8000000 in
set_option maxRecDepth 100000 in
theorem gone_long (A0 : Option Addr) (c0 : Nat) (l0 : List S29) (h : Int) (s : ByteArray) (w : World) (hr0 : Kd.C k29 w A0 l0.length l0) (hc0 : l0.length ≤ c0) (hL : heirloomlaw05_long.f 103 l0 = some true) :
    Calls Try.prog 5 #[.slice A0 l0.length c0, .int .i64 h, .string s] w fun e w' => e = .returned (.bool true) ∧ Below w.heap.size w w' := by
  have HL := Aside0.mk hL
  have HR0 := Aside0.mk hr0
  clear hL hr0
  go_enter Try.func5, Try.ntmps5
  go_wp2_with (first
    | (go_at_call 11; refine (heirloomlaw05_long.calls _ A0 c0 l0 true _ HR0.out hc0 HL.out).mono ?_; rintro e w3 ⟨rfl, d3⟩; obtain ⟨n3, hd3⟩ := d3.out; subst hd3; clear d3)
    | (go_at_call 10; refine (alive_calls _).mono ?_; rintro e w2 ⟨rfl, b2⟩; have B2 : Aside0 (Below w.heap.size w w2) := ⟨(pw_below_drewN (Below.refl _ _) _).trans (b2.mono (grown_drewN w n3 none).size)⟩; clear b2))
  go_ret
  exact ⟨rfl, B2.out⟩
set_option maxHeartbeats 8000000 in
set_option maxRecDepth 100000 in
theorem gone_big (A0 : Option Addr) (c0 : Nat) (l0 : List S29) (h : Int) (s : ByteArray) (w : World) (hr0 : Kd.C k29 w A0 l0.length l0) (hc0 : l0.length ≤ c0) (hL : heirloomlaw05_long.f 103 l0 = some false) (hs : (s.size : Int) > 5000) :
    Calls Try.prog 5 #[.slice A0 l0.length c0, .int .i64 h, .string s] w fun e w' => e = .returned (.bool true) ∧ Below w.heap.size w w' := by
  have HL := Aside0.mk hL
  have HR0 := Aside0.mk hr0
  clear hL hr0
  go_enter Try.func5, Try.ntmps5
  go_wp2_with (first
    | (go_at_call 11; refine (heirloomlaw05_long.calls _ A0 c0 l0 false _ HR0.out hc0 HL.out).mono ?_; rintro e w3 ⟨rfl, d3⟩; obtain ⟨n3, hd3⟩ := d3.out; subst hd3; clear d3)
    | (go_at_call 10; refine (alive_calls _).mono ?_; rintro e w2 ⟨rfl, b2⟩; have B2 : Aside0 (Below w.heap.size w w2) := ⟨(pw_below_drewN (Below.refl _ _) _).trans (b2.mono (grown_drewN w n3 none).size)⟩; clear b2))
  go_ret
  exact ⟨rfl, B2.out⟩
set_option maxHeartbeats 8000000 in
set_option maxRecDepth 100000 in
theorem gone_none (A0 : Option Addr) (c0 : Nat) (l0 : List S29) (h : Int) (hw : (Lit.int .i64 h).wf = true) (s : ByteArray) (w : World) (hr0 : Kd.C k29 w A0 l0.length l0) (hc0 : l0.length ≤ c0) (hv : ∀ v ∈ l0, v.f1.size ≤ maxLen ∧ (Lit.int .i64 v.f2).wf = true) (hlen : l0.length ≤ 100) (hL : heirloomlaw05_long.f 103 l0 = some false) (hs : ¬ (s.size : Int) > 5000)
    (ht : (run l0).text h = none) :
    Calls Try.prog 5 #[.slice A0 l0.length c0, .int .i64 h, .string s] w fun e w' => e = .returned (.bool true) ∧ Below w.heap.size w w' := by
  have HL := Aside0.mk hL
  have HR0 := Aside0.mk hr0
  have HV := Aside0.mk hv
  have HTX := Aside0.mk ht
  have t1 := True.intro
  have t2 := True.intro
  clear hL hr0 hv ht
  go_enter Try.func5, Try.ntmps5
  go_wp2_with (first
    | (go_at_call 11; refine (heirloomlaw05_long.calls _ A0 c0 l0 false _ HR0.out hc0 HL.out).mono ?_; rintro e w3 ⟨rfl, d3⟩; obtain ⟨n3, hd3⟩ := d3.out; have B3 : Aside0 (Below w.heap.size w w3) := ⟨hd3 ▸ pw_below_drewN (Below.refl _ _) _⟩; clear d3 hd3)
    | (go_at_call 21; have _t := t1; refine (made_calls A0 c0 l0 _ (Kd.C_below HR0.out B3.out) hc0 HV.out hlen).mono ?_; rintro e w4 ⟨B4, rfl, h4, b4⟩; have B4' := Aside0.mk (B3.out.trans (b4.mono B3.out.size)); have H4 := Aside0.mk h4; clear h4 b4 t1)
    | (go_at_call 21; have _t := t2; refine (made_calls A0 c0 l0 _ (Kd.C_below HR0.out B4'.out) hc0 HV.out hlen).mono ?_; rintro e w5 ⟨B5, rfl, h5, b5⟩; have H45 := Aside0.mk (H4.out.below b5); have B5' := Aside0.mk (B4'.out.trans (b5.mono B4'.out.size)); clear h5 b5 t2)
    | (go_at_call 22; refine (H45.out.text_none h hw HTX.out).mono ?_; rintro e w6 ⟨rfl, hw6⟩; have hw6 := hw6.symm; subst hw6)
    | (go_at_call 14; refine H45.out.len.mono ?_; rintro e w6 ⟨rfl, hw6⟩; have hw6 := hw6.symm; subst hw6)
    | (go_at_call 18; refine (H45.out.drop_none h hw HTX.out).mono ?_; rintro e w6 ⟨rfl, hw6⟩; have hw6 := hw6.symm; subst hw6)
    | (go_at_call 17; refine (no_calls _ _).mono ?_; rintro e w6 ⟨rfl, hw6⟩; have hw6 := hw6.symm; subst hw6)
    | (go_at_call 10; refine (alive_calls _).mono ?_; rintro e w7 ⟨rfl, b7⟩; have B7 := Aside0.mk (B5'.out.trans (b7.mono B5'.out.size)); clear b7))
  go_ret
  exact ⟨rfl, B7.out⟩
set_option maxHeartbeats 8000000 in
set_option maxRecDepth 100000 in
theorem gone_same (A0 : Option Addr) (c0 : Nat) (l0 : List S29) (h : Int) (hw : (Lit.int .i64 h).wf = true) (s : ByteArray) (w : World) (hr0 : Kd.C k29 w A0 l0.length l0) (hc0 : l0.length ≤ c0) (hv : ∀ v ∈ l0, v.f1.size ≤ maxLen ∧ (Lit.int .i64 v.f2).wf = true) (hlen : l0.length ≤ 100) (hL : heirloomlaw05_long.f 103 l0 = some false) (hs : ¬ (s.size : Int) > 5000)
    (s0 : ByteArray) (e0 : s = s0) (ht : (run l0).text h = some s0) (ok : (run l0).Ok) (y2 : En) (ho2 : (run l0).find s0 = some y2) :
    Calls Try.prog 5 #[.slice A0 l0.length c0, .int .i64 h, .string s] w fun e w' => e = .returned (.bool true) ∧ Below w.heap.size w w' := by
  have G := gone_facts ok ht
  have HL := Aside0.mk hL
  have HR0 := Aside0.mk hr0
  have HV := Aside0.mk hv
  have HTX := Aside0.mk ht
  have HG := Aside0.mk G
  subst e0
  have HF2 := Aside0.mk ho2
  have HP : Aside0 (((run l0).del h).putE s h = 0) := ⟨by unfold St.putE; rw [if_neg (by have := G.one; omega), if_neg (by rw [G.was, G.text]; simp)]⟩
  obtain ⟨y, hy, hyh, hys⟩ := St.text_some ht
  have hs0 : s.size ≤ maxLen := hys ▸ ok.len y hy
  have hsm : s.size ≤ maxLen := by unfold maxLen; omega
  have HQ : Aside0 (((run l0).del h).q + 1 ≤ 1000) := ⟨by have := run_q l0; show (run l0).q + 1 ≤ 1000; omega⟩
  have HLN : Aside0 ((((run l0).del h).L.length : Int) = wrap64 (((run l0).L.length : Int) - 1)) := ⟨by have := G.len; have := ok.many; have := ok.q; unfold wrap64; omega⟩
  have t1 := True.intro
  have t2 := True.intro
  have t3 := True.intro
  have t4 := True.intro
  have t5 := True.intro
  have t6 := True.intro
  have t7 := True.intro
  clear hL hr0 hv ht G hy hyh hys ho2
  go_enter Try.func5, Try.ntmps5
  go_wp2_with (first
    | (go_at_call 11; refine (heirloomlaw05_long.calls _ A0 c0 l0 false _ HR0.out hc0 HL.out).mono ?_; rintro e w3 ⟨rfl, d3⟩; obtain ⟨n3, hd3⟩ := d3.out; have B3 : Aside0 (Below w.heap.size w w3) := ⟨hd3 ▸ pw_below_drewN (Below.refl _ _) _⟩; clear d3 hd3)
    | (go_at_call 21; have _t := t1; refine (made_calls A0 c0 l0 _ (Kd.C_below HR0.out B3.out) hc0 HV.out hlen).mono ?_; rintro e w4 ⟨B4, rfl, h4, b4⟩; have B4' := Aside0.mk (B3.out.trans (b4.mono B3.out.size)); have H4 := Aside0.mk h4; clear h4 b4 t1)
    | (go_at_call 21; have _t := t2; refine (made_calls A0 c0 l0 _ (Kd.C_below HR0.out B4'.out) hc0 HV.out hlen).mono ?_; rintro e w5 ⟨B5, rfl, h5, b5⟩; have H45 := Aside0.mk (H4.out.below b5); have H5 := Aside0.mk h5; have B5' := Aside0.mk (B4'.out.trans (b5.mono B4'.out.size)); have Z5 := Aside0.mk b5.size; clear h5 b5 t2)
    | (go_at_call 22; have _t := t3; refine (H45.out.text_some h hw HTX.out).mono ?_; rintro e w6 ⟨rfl, hw6⟩; have hw6 := hw6.symm; subst hw6; clear t3)
    | (go_at_call 14; have _t := t4; refine H45.out.len.mono ?_; rintro e w6 ⟨rfl, hw6⟩; have hw6 := hw6.symm; subst hw6; clear t4)
    | (go_at_call 18; refine (H45.out.drop h hw).mono ?_; rintro e w6 ⟨rfl, h6, o6⟩; rw [HG.out.e]; rw [HG.out.st'] at h6; have U6 := Aside0.mk (H5.out.only o6 (fun k hk hk2 => by have h1 := hk.1; have h2 := hk2.2; omega)); have H6 := Aside0.mk (h6.mono (S' := From w.heap.size) (fun k _ hk => by rcases hk with hk | hk; exact Nat.le_trans B3.out.size hk.1; exact Nat.le_trans B5'.out.size hk.1)); have B6 := Aside0.mk (B5'.out.trans (o6.below (fun k hk => Nat.le_trans B3.out.size hk.1) B5'.out.size)); clear h6 o6)
    | (go_at_call 19; have _t := t5; refine (H6.out.find_none s hs0 HG.out.was).mono ?_; rintro e w7 ⟨rfl, b7⟩; have H7 := Aside0.mk (H6.out.below b7); have U7 := Aside0.mk (U6.out.below b7); have B7 := Aside0.mk (B6.out.trans (b7.mono B6.out.size)); clear b7 t5)
    | (go_at_call 22; refine (H7.out.text_none h hw HG.out.text).mono ?_; rintro e w8 ⟨rfl, hw8⟩; have hw8 := hw8.symm; subst hw8)
    | (go_at_call 14; refine H7.out.len.mono ?_; rintro e w8 ⟨rfl, hw8⟩; have hw8 := hw8.symm; subst hw8; rw [HLN.out])
    | (go_at_call 19; have _t := t6; refine (H7.out.find_none s hsm HG.out.was).mono ?_; rintro e w8 ⟨rfl, b8⟩; have H8 := Aside0.mk (H7.out.below b8); have U8 := Aside0.mk (U7.out.below b8); have B8 := Aside0.mk (B7.out.trans (b8.mono B7.out.size)); clear b8 t6)
    | (go_at_call 19; have _t := t7; refine (U8.out.find_some s hsm HF2.out).mono ?_; rintro e w9 ⟨rfl, b9⟩; have H9 := Aside0.mk (H8.out.below b9); have B9 := Aside0.mk (B8.out.trans (b9.mono B8.out.size)); clear b9 t7)
    | (go_at_call 16; refine (H9.out.put s hsm h hw HQ.out).mono ?_; rintro e w10 ⟨rfl, h10, o10⟩; rw [show ((run l0).del h).putE s h = 0 from HP.out]; have B10 := Aside0.mk (B9.out.trans (o10.below (fun k hk => hk) B9.out.size)); clear h10 o10)
    | (go_at_call 17; refine (no_calls _ _).mono ?_; rintro e w11 ⟨rfl, hw11⟩; have hw11 := hw11.symm; subst hw11)
    | (go_at_call 10; refine (alive_calls _).mono ?_; rintro e w12 ⟨rfl, b12⟩; have B12 := Aside0.mk (B10.out.trans (b12.mono B10.out.size)); clear b12))
  go_ret
  exact ⟨rfl, B12.out⟩
set_option maxHeartbeats 8000000 in
set_option maxRecDepth 100000 in
theorem gone_not (A0 : Option Addr) (c0 : Nat) (l0 : List S29) (h : Int) (hw : (Lit.int .i64 h).wf = true) (s : ByteArray) (w : World) (hr0 : Kd.C k29 w A0 l0.length l0) (hc0 : l0.length ≤ c0) (hv : ∀ v ∈ l0, v.f1.size ≤ maxLen ∧ (Lit.int .i64 v.f2).wf = true) (hlen : l0.length ≤ 100) (hL : heirloomlaw05_long.f 103 l0 = some false) (hs : ¬ (s.size : Int) > 5000)
    (s0 : ByteArray) (hne : s ≠ s0) (ht : (run l0).text h = some s0) (ok : (run l0).Ok) (ho2 : (run l0).find s = none) :
    Calls Try.prog 5 #[.slice A0 l0.length c0, .int .i64 h, .string s] w fun e w' => e = .returned (.bool true) ∧ Below w.heap.size w w' := by
  have G := gone_facts ok ht
  have HL := Aside0.mk hL
  have HR0 := Aside0.mk hr0
  have HV := Aside0.mk hv
  have HTX := Aside0.mk ht
  have HG := Aside0.mk G
  have HF2 := Aside0.mk ho2
  have HF : Aside0 (((run l0).del h).find s = none) := ⟨(G.other s hne).trans ho2⟩
  have hne2 : (s.toList == s0.toList) = false := beq_eq_false_iff_ne.2 (fun e => hne (toList_inj e))
  have HP : Aside0 (((run l0).del h).putE s h = 0) := ⟨by unfold St.putE; rw [if_neg (by have := G.one; omega), if_neg (by rw [HF.out, G.text]; simp)]⟩
  obtain ⟨y, hy, hyh, hys⟩ := St.text_some ht
  have hs0 : s0.size ≤ maxLen := hys ▸ ok.len y hy
  have hsm : s.size ≤ maxLen := by unfold maxLen; omega
  have HQ : Aside0 (((run l0).del h).q + 1 ≤ 1000) := ⟨by have := run_q l0; show (run l0).q + 1 ≤ 1000; omega⟩
  have HLN : Aside0 ((((run l0).del h).L.length : Int) = wrap64 (((run l0).L.length : Int) - 1)) := ⟨by have := G.len; have := ok.many; have := ok.q; unfold wrap64; omega⟩
  have t1 := True.intro
  have t2 := True.intro
  have t3 := True.intro
  have t4 := True.intro
  have t5 := True.intro
  have t6 := True.intro
  have t7 := True.intro
  clear hL hr0 hv ht G hy hyh hys ho2
  go_enter Try.func5, Try.ntmps5
  go_wp2_with (first
    | (go_at_call 11; refine (heirloomlaw05_long.calls _ A0 c0 l0 false _ HR0.out hc0 HL.out).mono ?_; rintro e w3 ⟨rfl, d3⟩; obtain ⟨n3, hd3⟩ := d3.out; have B3 : Aside0 (Below w.heap.size w w3) := ⟨hd3 ▸ pw_below_drewN (Below.refl _ _) _⟩; clear d3 hd3)
    | (go_at_call 21; have _t := t1; refine (made_calls A0 c0 l0 _ (Kd.C_below HR0.out B3.out) hc0 HV.out hlen).mono ?_; rintro e w4 ⟨B4, rfl, h4, b4⟩; have B4' := Aside0.mk (B3.out.trans (b4.mono B3.out.size)); have H4 := Aside0.mk h4; clear h4 b4 t1)
    | (go_at_call 21; have _t := t2; refine (made_calls A0 c0 l0 _ (Kd.C_below HR0.out B4'.out) hc0 HV.out hlen).mono ?_; rintro e w5 ⟨B5, rfl, h5, b5⟩; have H45 := Aside0.mk (H4.out.below b5); have H5 := Aside0.mk h5; have B5' := Aside0.mk (B4'.out.trans (b5.mono B4'.out.size)); have Z5 := Aside0.mk b5.size; clear h5 b5 t2)
    | (go_at_call 22; have _t := t3; refine (H45.out.text_some h hw HTX.out).mono ?_; rintro e w6 ⟨rfl, hw6⟩; have hw6 := hw6.symm; subst hw6; clear t3)
    | (go_at_call 14; have _t := t4; refine H45.out.len.mono ?_; rintro e w6 ⟨rfl, hw6⟩; have hw6 := hw6.symm; subst hw6; clear t4)
    | (go_at_call 18; refine (H45.out.drop h hw).mono ?_; rintro e w6 ⟨rfl, h6, o6⟩; rw [HG.out.e]; rw [HG.out.st'] at h6; have U6 := Aside0.mk (H5.out.only o6 (fun k hk hk2 => by have h1 := hk.1; have h2 := hk2.2; omega)); have H6 := Aside0.mk (h6.mono (S' := From w.heap.size) (fun k _ hk => by rcases hk with hk | hk; exact Nat.le_trans B3.out.size hk.1; exact Nat.le_trans B5'.out.size hk.1)); have B6 := Aside0.mk (B5'.out.trans (o6.below (fun k hk => Nat.le_trans B3.out.size hk.1) B5'.out.size)); clear h6 o6)
    | (go_at_call 19; have _t := t5; refine (H6.out.find_none s0 hs0 HG.out.was).mono ?_; rintro e w7 ⟨rfl, b7⟩; have H7 := Aside0.mk (H6.out.below b7); have U7 := Aside0.mk (U6.out.below b7); have B7 := Aside0.mk (B6.out.trans (b7.mono B6.out.size)); clear b7 t5)
    | (go_at_call 22; refine (H7.out.text_none h hw HG.out.text).mono ?_; rintro e w8 ⟨rfl, hw8⟩; have hw8 := hw8.symm; subst hw8)
    | (go_at_call 14; refine H7.out.len.mono ?_; rintro e w8 ⟨rfl, hw8⟩; have hw8 := hw8.symm; subst hw8; rw [HLN.out])
    | (go_at_call 19; have _t := t6; refine (H7.out.find_none s hsm HF.out).mono ?_; rintro e w8 ⟨rfl, b8⟩; have H8 := Aside0.mk (H7.out.below b8); have U8 := Aside0.mk (U7.out.below b8); have B8 := Aside0.mk (B7.out.trans (b8.mono B7.out.size)); clear b8 t6)
    | (go_at_call 19; have _t := t7; refine (U8.out.find_none s hsm HF2.out).mono ?_; rintro e w9 ⟨rfl, b9⟩; have H9 := Aside0.mk (H8.out.below b9); have B9 := Aside0.mk (B8.out.trans (b9.mono B8.out.size)); clear b9 t7)
    | (go_at_call 16; refine (H9.out.put s hsm h hw HQ.out).mono ?_; rintro e w10 ⟨rfl, h10, o10⟩; rw [show ((run l0).del h).putE s h = 0 from HP.out]; have B10 := Aside0.mk (B9.out.trans (o10.below (fun k hk => hk) B9.out.size)); clear h10 o10)
    | (go_at_call 17; refine (no_calls _ _).mono ?_; rintro e w11 ⟨rfl, hw11⟩; have hw11 := hw11.symm; subst hw11)
    | (go_at_call 10; refine (alive_calls _).mono ?_; rintro e w12 ⟨rfl, b12⟩; have B12 := Aside0.mk (B10.out.trans (b12.mono B10.out.size)); clear b12))
  go_ret
  exact ⟨rfl, B12.out⟩
set_option maxHeartbeats 8000000 in
set_option maxRecDepth 100000 in
theorem gone_there (A0 : Option Addr) (c0 : Nat) (l0 : List S29) (h : Int) (hw : (Lit.int .i64 h).wf = true) (s : ByteArray) (w : World) (hr0 : Kd.C k29 w A0 l0.length l0) (hc0 : l0.length ≤ c0) (hv : ∀ v ∈ l0, v.f1.size ≤ maxLen ∧ (Lit.int .i64 v.f2).wf = true) (hlen : l0.length ≤ 100) (hL : heirloomlaw05_long.f 103 l0 = some false) (hs : ¬ (s.size : Int) > 5000)
    (s0 : ByteArray) (hne : s ≠ s0) (ht : (run l0).text h = some s0) (ok : (run l0).Ok) (y2 : En) (ho2 : (run l0).find s = some y2) :
    Calls Try.prog 5 #[.slice A0 l0.length c0, .int .i64 h, .string s] w fun e w' => e = .returned (.bool true) ∧ Below w.heap.size w w' := by
  have G := gone_facts ok ht
  have HL := Aside0.mk hL
  have HR0 := Aside0.mk hr0
  have HV := Aside0.mk hv
  have HTX := Aside0.mk ht
  have HG := Aside0.mk G
  have HF2 := Aside0.mk ho2
  have HF : Aside0 (((run l0).del h).find s = some y2) := ⟨(G.other s hne).trans ho2⟩
  have hne2 : (s.toList == s0.toList) = false := beq_eq_false_iff_ne.2 (fun e => hne (toList_inj e))
  have HP : Aside0 (((run l0).del h).putE s h = 17) := ⟨by unfold St.putE; rw [if_neg (by have := G.one; omega), if_pos (by rw [HF.out]; simp)]⟩
  obtain ⟨y, hy, hyh, hys⟩ := St.text_some ht
  have hs0 : s0.size ≤ maxLen := hys ▸ ok.len y hy
  have hsm : s.size ≤ maxLen := by unfold maxLen; omega
  have HQ : Aside0 (((run l0).del h).q + 1 ≤ 1000) := ⟨by have := run_q l0; show (run l0).q + 1 ≤ 1000; omega⟩
  have HLN : Aside0 ((((run l0).del h).L.length : Int) = wrap64 (((run l0).L.length : Int) - 1)) := ⟨by have := G.len; have := ok.many; have := ok.q; unfold wrap64; omega⟩
  have t1 := True.intro
  have t2 := True.intro
  have t3 := True.intro
  have t4 := True.intro
  have t5 := True.intro
  have t6 := True.intro
  have t7 := True.intro
  clear hL hr0 hv ht G hy hyh hys ho2
  go_enter Try.func5, Try.ntmps5
  go_wp2_with (first
    | (go_at_call 11; refine (heirloomlaw05_long.calls _ A0 c0 l0 false _ HR0.out hc0 HL.out).mono ?_; rintro e w3 ⟨rfl, d3⟩; obtain ⟨n3, hd3⟩ := d3.out; have B3 : Aside0 (Below w.heap.size w w3) := ⟨hd3 ▸ pw_below_drewN (Below.refl _ _) _⟩; clear d3 hd3)
    | (go_at_call 21; have _t := t1; refine (made_calls A0 c0 l0 _ (Kd.C_below HR0.out B3.out) hc0 HV.out hlen).mono ?_; rintro e w4 ⟨B4, rfl, h4, b4⟩; have B4' := Aside0.mk (B3.out.trans (b4.mono B3.out.size)); have H4 := Aside0.mk h4; clear h4 b4 t1)
    | (go_at_call 21; have _t := t2; refine (made_calls A0 c0 l0 _ (Kd.C_below HR0.out B4'.out) hc0 HV.out hlen).mono ?_; rintro e w5 ⟨B5, rfl, h5, b5⟩; have H45 := Aside0.mk (H4.out.below b5); have H5 := Aside0.mk h5; have B5' := Aside0.mk (B4'.out.trans (b5.mono B4'.out.size)); have Z5 := Aside0.mk b5.size; clear h5 b5 t2)
    | (go_at_call 22; have _t := t3; refine (H45.out.text_some h hw HTX.out).mono ?_; rintro e w6 ⟨rfl, hw6⟩; have hw6 := hw6.symm; subst hw6; clear t3)
    | (go_at_call 14; have _t := t4; refine H45.out.len.mono ?_; rintro e w6 ⟨rfl, hw6⟩; have hw6 := hw6.symm; subst hw6; clear t4)
    | (go_at_call 18; refine (H45.out.drop h hw).mono ?_; rintro e w6 ⟨rfl, h6, o6⟩; rw [HG.out.e]; rw [HG.out.st'] at h6; have U6 := Aside0.mk (H5.out.only o6 (fun k hk hk2 => by have h1 := hk.1; have h2 := hk2.2; omega)); have H6 := Aside0.mk (h6.mono (S' := From w.heap.size) (fun k _ hk => by rcases hk with hk | hk; exact Nat.le_trans B3.out.size hk.1; exact Nat.le_trans B5'.out.size hk.1)); have B6 := Aside0.mk (B5'.out.trans (o6.below (fun k hk => Nat.le_trans B3.out.size hk.1) B5'.out.size)); clear h6 o6)
    | (go_at_call 19; have _t := t5; refine (H6.out.find_none s0 hs0 HG.out.was).mono ?_; rintro e w7 ⟨rfl, b7⟩; have H7 := Aside0.mk (H6.out.below b7); have U7 := Aside0.mk (U6.out.below b7); have B7 := Aside0.mk (B6.out.trans (b7.mono B6.out.size)); clear b7 t5)
    | (go_at_call 22; refine (H7.out.text_none h hw HG.out.text).mono ?_; rintro e w8 ⟨rfl, hw8⟩; have hw8 := hw8.symm; subst hw8)
    | (go_at_call 14; refine H7.out.len.mono ?_; rintro e w8 ⟨rfl, hw8⟩; have hw8 := hw8.symm; subst hw8; rw [HLN.out])
    | (go_at_call 19; have _t := t6; refine (H7.out.find_some s hsm HF.out).mono ?_; rintro e w8 ⟨rfl, b8⟩; have H8 := Aside0.mk (H7.out.below b8); have U8 := Aside0.mk (U7.out.below b8); have B8 := Aside0.mk (B7.out.trans (b8.mono B7.out.size)); clear b8 t6)
    | (go_at_call 19; have _t := t7; refine (U8.out.find_some s hsm HF2.out).mono ?_; rintro e w9 ⟨rfl, b9⟩; have H9 := Aside0.mk (H8.out.below b9); have B9 := Aside0.mk (B8.out.trans (b9.mono B8.out.size)); clear b9 t7)
    | (go_at_call 16; refine (H9.out.put s hsm h hw HQ.out).mono ?_; rintro e w10 ⟨rfl, h10, o10⟩; rw [show ((run l0).del h).putE s h = 17 from HP.out]; have B10 := Aside0.mk (B9.out.trans (o10.below (fun k hk => hk) B9.out.size)); clear h10 o10)
    | (go_at_call 17; refine (no_calls _ _).mono ?_; rintro e w11 ⟨rfl, hw11⟩; have hw11 := hw11.symm; subst hw11)
    | (go_at_call 10; refine (alive_calls _).mono ?_; rintro e w12 ⟨rfl, b12⟩; have B12 := Aside0.mk (B10.out.trans (b12.mono B10.out.size)); clear b12))
  go_ret
  exact ⟨rfl, B12.out⟩
theorem gone_walk (A0 : Option Addr) (c0 : Nat) (l0 : List S29) (h : Int) (hw : (Lit.int .i64 h).wf = true) (s : ByteArray) (w : World) (hr0 : Kd.C k29 w A0 l0.length l0) (hc0 : l0.length ≤ c0) (hv : ∀ v ∈ l0, v.f1.size ≤ maxLen ∧ (Lit.int .i64 v.f2).wf = true) :
    Calls Try.prog 5 #[.slice A0 l0.length c0, .int .i64 h, .string s] w fun e w' => e = .returned (.bool true) ∧ Below w.heap.size w w' := by
  obtain ⟨b, hL, hb⟩ := long_some l0
  cases b with
  | true => exact gone_long A0 c0 l0 h s w hr0 hc0 hL
  | false =>
    have hlen := hb rfl
    by_cases hs : (s.size : Int) > 5000
    · exact gone_big A0 c0 l0 h s w hr0 hc0 hL hs
    · have ok : (run l0).Ok := run_ok l0 hv hlen
      cases ht : (run l0).text h with
      | none => exact gone_none A0 c0 l0 h hw s w hr0 hc0 hv hlen hL hs ht
      | some s0 =>
        by_cases e : s = s0
        · obtain ⟨y, hy, hyh, hys⟩ := St.text_some ht
          have : (run l0).find s0 ≠ none := fun e2 => St.find_none' e2 y hy hys
          obtain ⟨y2, hy2⟩ := Option.ne_none_iff_exists'.1 this
          exact gone_same A0 c0 l0 h hw s w hr0 hc0 hv hlen hL hs s0 e ht ok y2 hy2
        · cases ho : (run l0).find s with
          | none => exact gone_not A0 c0 l0 h hw s w hr0 hc0 hv hlen hL hs s0 e ht ok ho
          | some y2 => exact gone_there A0 c0 l0 h hw s w hr0 hc0 hv hlen hL hs s0 e ht ok y2 ho
end Go.Proofs.Ytonjhnglcffihaa.Tab
