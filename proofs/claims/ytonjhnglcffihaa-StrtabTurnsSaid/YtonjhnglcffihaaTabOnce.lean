/- PROVED: the law StrtabOnce's function returns true. Conditions: those that its argument's reading gives. -/
import Derived.Test.YtonjhnglcffihaaTabChain
import Derived.Test.YtonjhnglcffihaaTabGone
set_option linter.unusedVariables false
set_option linter.unusedSimpArgs false
namespace Go.Proofs.Ytonjhnglcffihaa.Tab
open Go Go.RowKit Go.Proofs.Ytonjhnglcffihaa.Print Go.Proofs.YtonjhnglcffihaaW.PrintWords Go.Proofs.YtonjhnglcffihaaW.PrintLast Go.Proofs.YtonjhnglcffihaaW.PrintMore
theorem bk_rem {n : Nat} (s : ByteArray) (h : ∃ k, n = 2 ^ k) (h1 : n ≤ 1048576) : hsh s % (n : Int) = (bk n s : Int) := by
  obtain ⟨k, hk⟩ := h
  have hp : 0 < n := by rw [hk]; exact Nat.pow_pos (by decide)
  have hr := hsh_range s
  obtain ⟨m, hm⟩ := Int.eq_ofNat_of_zero_le hr.1
  rw [← bk_int n s hp h1, hm, show ((n : Int) - 1) = ((n - 1 : Nat) : Int) by omega, i64_and_nat m (n - 1) (by omega) (by omega), hk, Nat.and_two_pow_sub_one_eq_mod]
  rfl
theorem St.told_get {st : St} (o : st.Ok) {b q : Nat} (h : q < (st.told b).length) : ∃ y, rd (st.told b) (q : Int) = y.h ∧ st.text y.h = some y.s ∧ st.find y.s = some y ∧ bk st.n y.s = b ∧ (Lit.int .i64 y.h).wf = true ∧ y.s.size ≤ maxLen := by
  have e : rd (st.told b) (q : Int) = (st.told b)[q] := by
    unfold rd
    simp [List.getD, List.getElem?_eq_getElem h]
  have hm : (st.told b)[q] ∈ st.told b := List.getElem_mem _
  unfold St.told at hm
  rw [List.mem_reverse, List.mem_map] at hm
  obtain ⟨y, hy, hyh⟩ := hm
  obtain ⟨hyL, hyb⟩ := List.mem_filter.1 hy
  refine ⟨y, e.trans hyh.symm, ?_, ?_, by simpa using hyb, (o.wf y hyL).1, o.len y hyL⟩
  · unfold St.text
    cases hf : st.L.find? fun x => x.h == y.h with
    | none => rw [List.find?_eq_none] at hf; exact absurd (hf y hyL) (by simp)
    | some z =>
      have hz := List.mem_of_find?_eq_some hf
      have hzh : z.h = y.h := by simpa using List.find?_some hf
      rw [pw_get o.once hz hyL (Or.inr hzh)]; rfl
  · unfold St.find
    cases hf : st.L.find? fun x => decide (x.s = y.s) with
    | none => rw [List.find?_eq_none] at hf; exact absurd (hf y hyL) (by simp)
    | some z =>
      have hz := List.mem_of_find?_eq_some hf
      have hzh : z.s = y.s := by simpa using List.find?_some hf
      rw [pw_get o.once hz hyL (Or.inl hzh)]
theorem told_length (st : St) (b : Nat) : (st.told b).length = (st.chain b).length := by simp [St.told]
theorem allE_told (st : St) (b : Nat) : (allE st (b + 1)).length = (allE st b).length + (st.told b).length := by rw [allE_succ, List.length_append, told_length]
theorem wrap_thou {q : Nat} (h : q < 1000) : wrap64 ((q : Int) + 1) = ((q + 1 : Nat) : Int) := wrap_nat_succ q (by omega)
theorem wrap_told {st : St} {b : Nat} (h : (allE st (b + 1)).length ≤ 1000) : wrap64 (((allE st b).length : Int) + ((st.told b).length : Int)) = ((allE st (b + 1)).length : Int) := by
  rw [allE_told] at h ⊢
  unfold wrap64; omega
set_option maxHeartbeats 8000000 in
set_option maxRecDepth 100000 in
theorem once_long (A0 : Option Addr) (c0 : Nat) (l0 : List S29) (w : World) (hr0 : Kd.C k29 w A0 l0.length l0) (hc0 : l0.length ≤ c0) (hL : heirloomlaw05_long.f 103 l0 = some true) :
    Calls Try.prog 7 #[.slice A0 l0.length c0] w fun e w' => e = .returned (.bool true) ∧ Below w.heap.size w w' := by
  have HL := Aside0.mk hL
  have HR0 := Aside0.mk hr0
  clear hL hr0
  go_enter Try.func7, Try.ntmps7
  go_wp2_with (first
    | (go_at_call 11; refine (heirloomlaw05_long.calls _ A0 c0 l0 true _ HR0.out hc0 HL.out).mono ?_; rintro e w3 ⟨rfl, d3⟩; obtain ⟨n3, hd3⟩ := d3.out; subst hd3; clear d3)
    | (go_at_call 10; refine (alive_calls _).mono ?_; rintro e w2 ⟨rfl, b2⟩; have B2 : Aside0 (Below w.heap.size w w2) := ⟨(pw_below_drewN (Below.refl _ _) _).trans (b2.mono (grown_drewN w n3 none).size)⟩; clear b2))
  go_ret
  exact ⟨rfl, B2.out⟩
set_option maxHeartbeats 8000000 in
set_option maxRecDepth 100000 in
theorem once_short (A0 : Option Addr) (c0 : Nat) (l0 : List S29) (w : World) (hr0 : Kd.C k29 w A0 l0.length l0) (hc0 : l0.length ≤ c0) (hv : ∀ v ∈ l0, v.f1.size ≤ maxLen ∧ (Lit.int .i64 v.f2).wf = true) (hlen : l0.length ≤ 100) (hL : heirloomlaw05_long.f 103 l0 = some false) :
    Calls Try.prog 7 #[.slice A0 l0.length c0] w fun e w' => e = .returned (.bool true) ∧ Below w.heap.size w w' := by
  have ok := run_ok l0 hv hlen
  have hn4 := ok.pos
  have hn5 : (run l0).n ≤ 1048576 := by have := ok.few; have := ok.q; omega
  have hLl : (run l0).L.length ≤ 1000 := Nat.le_trans ok.many ok.q
  have hall : ∀ b, b ≤ (run l0).n → (allE (run l0) b).length ≤ 1000 := fun b hb => Nat.le_trans (allE_le _ hb) (by rw [(allE_perm (by omega) hn5).length_eq]; exact hLl)
  have hend : ((allE (run l0) (run l0).n).length : Int) = ((run l0).L.length : Int) := by rw [(allE_perm (by omega) hn5).length_eq]
  have HTL : Aside0 (∀ b, b < (run l0).n → ((run l0).told b).length ≤ 1000) := ⟨fun b hb => by have := hall (b + 1) hb; rw [allE_told] at this; omega⟩
  have HE := Aside0.mk hend
  have HALL := Aside0.mk hall
  have HL := Aside0.mk hL
  have HR0 := Aside0.mk hr0
  have HV := Aside0.mk hv
  have OK := Aside0.mk ok
  clear hL hr0 hv ok hend hall
  generalize hst : run l0 = st at *
  clear hLl
  go_enter Try.func7, Try.ntmps7
  go_wp2_with (first
    | (go_at_call 11; refine (heirloomlaw05_long.calls _ A0 c0 l0 false _ HR0.out hc0 HL.out).mono ?_; rintro e w3 ⟨rfl, d3⟩; obtain ⟨n3, hd3⟩ := d3.out; have B3 : Aside0 (Below w.heap.size w w3) := ⟨hd3 ▸ pw_below_drewN (Below.refl _ _) _⟩; clear d3 hd3)
    | (go_at_call 21; refine (made_calls A0 c0 l0 _ (Kd.C_below HR0.out B3.out) hc0 HV.out hlen).mono ?_; rintro e w4 ⟨B4, rfl, h4, b4⟩; rw [hst] at h4; have B4' := Aside0.mk (B3.out.trans (b4.mono B3.out.size)); have H4 := Aside0.mk h4; clear h4 b4))
  go_loopw [4, 5] (fun n b wr => ∃ q : Nat, q ≤ st.n ∧ n = .int .i64 ((allE st q).length : Int) ∧ b = .int .i64 q ∧ Aside0 (Below w4.heap.size w4 wr)) (fun _ b _ => st.n - (intOf b).toNat)
  case atStart => exact ⟨0, by omega, rfl, rfl, ⟨Below.refl _ _⟩⟩
  case round =>
    obtain ⟨b, hb, rfl, rfl, HB⟩ := hrel
    have HT := Aside0.mk (H4.out.below HB.out)
    by_cases hlt : b < st.n
    · have hlt0 : (b : Int) < (st.n : Int) := by omega
      go_wp2_with (first
        | (go_at_call 13; refine HT.out.buckets.mono ?_; rintro e w5 ⟨rfl, hw5⟩; have hw5 := hw5.symm; subst hw5)
        | (go_at_call 28; refine (HT.out.chain_in b hlt).mono ?_; rintro e w5 ⟨AC, cc, rfl, hC, hcc, b5⟩; have HC := Aside0.mk hC; have HB5 := Aside0.mk (HB.out.trans (b5.mono HB.out.size)); have HT5 := Aside0.mk (HT.out.below b5); clear hC b5))
      go_loopw [7] (fun i wt => ∃ q : Nat, q ≤ (st.told b).length ∧ i = .int .i64 q ∧ Aside0 (Below w5.heap.size w5 wt)) (fun i _ => (st.told b).length - (intOf i).toNat)
      case atStart => exact ⟨0, by omega, rfl, ⟨Below.refl _ _⟩⟩
      case round =>
        obtain ⟨q, hq, rfl, HB7⟩ := hrel
        by_cases hlt7 : q < (st.told b).length
        · have hlt8 : (q : Int) < ((st.told b).length : Int) := by omega
          have hq0 : (0 : Int) ≤ (q : Int) := by omega
          obtain ⟨y, y1, y2, y3, y4, y5, y6⟩ := St.told_get OK.out hlt7
          obtain ⟨ad, e9, x0⟩ := Kd.at_int HC.out (q : Int) hq0 hlt8
          subst e9
          rw [y1] at x0
          simp only [Int.toNat_natCast] at x0
          replace x0 := (HB7.out.cell (World.block_lt_of_cell? w5 _ x0)).trans x0
          have HT7 := Aside0.mk (HT5.out.below HB7.out)
          have Y2 := Aside0.mk y2
          have Y3 := Aside0.mk y3
          have hbk : (hsh y.s % (st.n : Int) != (b : Int)) = false := by rw [bk_rem y.s OK.out.two hn5, y4]; simp
          have HSH := Aside0.mk (hash_some y.s y6)
          have hsr := hsh_range y.s
          clear y1 y2 y3 y4
          go_wp2_with (first
            | (go_at_call 22; refine (HT7.out.text_some y.h y5 Y2.out).mono ?_; rintro e w8 ⟨rfl, hw8⟩; have hw8 := hw8.symm; subst hw8)
            | (go_at_call 19; refine (HT7.out.find_some y.s y6 Y3.out).mono ?_; rintro e w8 ⟨rfl, b8⟩; have HB8 := Aside0.mk (HB7.out.trans (b8.mono HB7.out.size)); have HT8 := Aside0.mk (HT7.out.below b8); replace x0 := (b8.cell (World.block_lt_of_cell? _ _ x0)).trans x0; clear b8)
            | (go_at_call 30; refine (text_Hash.calls _ y.s (hsh y.s) _ HSH.out).mono ?_; rintro e w9 ⟨rfl, d9⟩; obtain ⟨n9, hd9⟩ := d9.out; have b9 : Below w8.heap.size w8 w9 := hd9 ▸ pw_below_drewN (Below.refl _ _) _; have HB9 := Aside0.mk (HB8.out.trans (b9.mono HB8.out.size)); have HT9 := Aside0.mk (HT8.out.below b9); clear b9 d9 hd9)
            | (go_at_call 13; refine HT9.out.buckets.mono ?_; rintro e w10 ⟨rfl, hw10⟩; have hw10 := hw10.symm; subst hw10))
          rw [wrap_thou (Nat.lt_of_lt_of_le hlt7 (HTL.out b hlt))]
          exact ⟨⟨q + 1, hlt7, rfl, HB9⟩, by show (st.told b).length - ((q + 1 : Nat) : Int).toNat < (st.told b).length - (q : Int).toNat; omega⟩
        · have hlt8 : ¬ (q : Int) < ((st.told b).length : Int) := by omega
          go_wp2
          rw [wrap_told (HALL.out (b + 1) hlt)]
          exact ⟨⟨b + 1, hlt, rfl, by rfl, ⟨HB5.out.trans (HB7.out.mono HB5.out.size)⟩⟩, by show st.n - ((b : Int) + 1).toNat < st.n - (b : Int).toNat; omega⟩
    · have hlt0 : ¬ (b : Int) < (st.n : Int) := by omega
      obtain rfl : b = st.n := by omega
      go_wp2_with (first
        | (go_at_call 13; refine HT.out.buckets.mono ?_; rintro e w5 ⟨rfl, hw5⟩; have hw5 := hw5.symm; subst hw5)
        | (go_at_call 14; refine HT.out.len.mono ?_; rintro e w5 ⟨rfl, hw5⟩; have hw5 := hw5.symm; subst hw5; rw [← HE.out])
        | (go_at_call 10; refine (alive_calls _).mono ?_; rintro e w6 ⟨rfl, b6⟩; have B6 : Aside0 (Below w.heap.size w w6) := ⟨(B4'.out.trans (HB.out.mono B4'.out.size)).trans (b6.mono (Nat.le_trans B4'.out.size HB.out.size))⟩; clear b6))
      go_ret
      exact ⟨rfl, B6.out⟩
theorem once_walk (A0 : Option Addr) (c0 : Nat) (l0 : List S29) (w : World) (hr0 : Kd.C k29 w A0 l0.length l0) (hc0 : l0.length ≤ c0) (hv : ∀ v ∈ l0, v.f1.size ≤ maxLen ∧ (Lit.int .i64 v.f2).wf = true) :
    Calls Try.prog 7 #[.slice A0 l0.length c0] w fun e w' => e = .returned (.bool true) ∧ Below w.heap.size w w' := by
  obtain ⟨b, hL, hb⟩ := long_some l0
  cases b with
  | true => exact once_long A0 c0 l0 w hr0 hc0 hL
  | false => exact once_short A0 c0 l0 w hr0 hc0 hv (hb rfl) hL
end Go.Proofs.Ytonjhnglcffihaa.Tab
