/- PROVED: what Drop does. Conditions: those each theorem states. -/
import Derived.Test.YtonjhnglcffihaaTabPut
set_option linter.unusedVariables false
set_option linter.unusedSimpArgs false
namespace Go.Proofs.Ytonjhnglcffihaa.Tab
open Go Go.RowKit Go.Proofs.Ytonjhnglcffihaa.Print Go.Proofs.YtonjhnglcffihaaW.PrintWords Go.Proofs.YtonjhnglcffihaaW.PrintLast Go.Proofs.YtonjhnglcffihaaW.PrintMore

/-- append onto a slice that is not nil, of any number of elements, at a step of a region that draws. -/
theorem step_append_on {P : Program} (w : World) {ops : Array Oper} {o : Oper} {a : Act} {K : Act → World → Prop} {Q : Exit → Act → World → Prop} {E : Prop} (hgd : o.guard = none) (s x : Operand) (t : TypeId)
    (ho : o.op = .call { callee := .builtin .append, args := #[s, x], argTypes := #[t, t] })
    (base : Nat) (e : TypeId) (i : TypeInfo) (z : Value) (size bytes : Nat) (ht : P.underlying t = some (.slice e)) (hi : P.info? e = some i) (hz : i.zero = some z)
    (hsize : i.size = size) (hby : i.bytes = bytes) (hzs : z.cells.size = size) (hsz : 0 < size)
    (g0 cap0 : Nat) (n : Nat) (xs : List Value) (hs : a.eval s = .slice (some ⟨g0, 0, none⟩) n cap0) (hown : w.ownsRow base e size (.slice (some ⟨g0, 0, none⟩) n cap0) n xs)
    (ad : Addr) (m c : Nat) (news : List Value) (hx : a.eval x = .slice (some ad) m c) (hl : news.length = m * size) (hnews : ∀ j u, news[j]? = some u → w.cell? (ad.add j) = some u) (h1 : ∀ u ∈ news, u.oneCell' = true)
    (h63 : n + m ≤ maxLen) (hbytes : (n + m) * bytes ≤ 140737488355328) (hbase : base ≤ w.heap.size)
    (h : ∀ g cap w', w'.ownsRow base e size (.slice (some ⟨g, 0, none⟩) (n + m) cap) (n + m) (xs ++ news) → w.grownBy w' (some g0) → (g = g0 ∨ g = w.heap.size) → g < w'.heap.size → K (a.put o.dst (.slice (some ⟨g, 0, none⟩) (n + m) cap)) w') :
    if Region.wanted o (yielded ops a.tmps) = true then Oper.wp P o a w K Q else E := by
  have hw : Region.wanted o (yielded ops a.tmps) = true := by simp [Region.wanted, hgd]
  rw [if_pos hw]
  obtain ⟨v', w', hr, h2, h3, h4, h5⟩ := run_append_own_at (P := P) w base t o.type e i z size bytes ht hi hz hsize hby hzs hsz _ n xs hown ad m c news hl hnews h1 h63 hbytes hbase
  have hnn : v' ≠ .slice none 0 0 := fun e => by have := (h4.1 e).1; simp at this
  rcases h2.2 with ⟨e0, _⟩ | ⟨g, cap, cur, rfl, hb, hg, hrest⟩
  · exact absurd e0 hnn
  · unfold Oper.wp execOp
    simp only [ho, resolve, invoke, builtin, Sem.run_bind, Sem.run_pure, Result.andThen_ok, List.map_toArray, List.map_cons, List.map_nil, hs, hx, hr]
    refine h g cap w' h2 h3 ?_ ((Array.getElem?_eq_some_iff.1 hg).1)
    rcases h5 with h5 | h5
    · exact Or.inl (by simpa [Value.ownBlock] using h5)
    · exact Or.inr (by simpa [Value.ownBlock] using h5)

theorem grown_drewN (w : World) (n : Nat) (row : Option Nat) : w.grownBy (w.drewN n) row := by
  have h := pw_below_drewN (Below.refl w.heap.size w) n
  exact ⟨h.os, h.tape, h.output, h.size, fun k hk _ => h.block k hk⟩
theorem row_cap {w : World} {base e size n cap : Nat} {g : Addr} {xs : List Value} (h : w.ownsRow base e size (.slice (some g) n cap) n xs) : n ≤ cap ∧ cap ≤ maxLen := by
  rcases h.2 with ⟨e0, _⟩ | ⟨g', cap', cur, e0, _, _, h1, h2, _⟩
  · simp at e0
  · simp only [Value.slice.injEq] at e0
    obtain ⟨_, _, rfl⟩ := e0
    exact ⟨h1, h2⟩
theorem flat_one (c : List En) : ∀ u ∈ flat c, u.oneCell' = true := by
  intro u hu
  unfold flat at hu
  obtain ⟨x, _, hx⟩ := List.mem_flatMap.1 hu
  simp only [En.vals, List.mem_cons, List.not_mem_nil, or_false] at hx
  rcases hx with rfl | rfl | rfl <;> rfl
theorem flat_take : ∀ (c : List En) (q : Nat), flat (c.take q) = (flat c).take (q * 3)
  | [], q => by simp [flat]
  | x :: c, 0 => by simp [flat]
  | x :: c, q + 1 => by
    have := flat_take c q
    rw [show (q + 1) * 3 = q * 3 + 3 by omega, List.take_succ_cons]
    simp only [flat, List.flatMap_cons, En.vals] at this ⊢
    simp [this]
theorem flat_drop : ∀ (c : List En) (q : Nat), flat (c.drop q) = (flat c).drop (q * 3)
  | [], q => by simp [flat]
  | x :: c, 0 => by simp [flat]
  | x :: c, q + 1 => by
    have := flat_drop c q
    rw [show (q + 1) * 3 = q * 3 + 3 by omega, List.drop_succ_cons]
    simp only [flat, List.flatMap_cons, En.vals] at this ⊢
    simp [this]
theorem row_prefix {w : World} {base e cap g0 q : Nat} {c : List En} (h : w.ownsRow base e 3 (.slice (some ⟨g0, 0, none⟩) c.length cap) c.length (flat c)) (hq : q ≤ c.length) : w.ownsRow base e 3 (.slice (some ⟨g0, 0, none⟩) q cap) q (flat (c.take q)) := by
  rcases h.2 with ⟨e0, _⟩ | ⟨g', cap', cur, e0, hb, hg, h1, h2, h3, h4⟩
  · simp at e0
  · simp only [Value.slice.injEq, Option.some.injEq, Addr.mk.injEq] at e0
    obtain ⟨⟨rfl, _⟩, _, rfl⟩ := e0
    refine ⟨by rw [flat_length, List.length_take, Nat.min_eq_left hq], .inr ⟨g0, cap, cur, rfl, hb, hg, by omega, h2, h3, ?_⟩⟩
    rw [flat_take, ← h4, List.take_take, Nat.min_eq_left (by omega)]
theorem row_tail {w : World} {base e cap g0 q : Nat} {c : List En} (h : w.ownsRow base e 3 (.slice (some ⟨g0, 0, none⟩) c.length cap) c.length (flat c)) (hq : q < c.length) :
    ∃ AD : Addr, (if cap = q + 1 then some (⟨g0, 0, none⟩ : Addr) else some ⟨g0, (q + 1) * 3, none⟩) = some AD ∧ ∀ j u, (flat (c.drop (q + 1)))[j]? = some u → w.cell? (AD.add j) = some u := by
  rcases h.2 with ⟨e0, _⟩ | ⟨g', cap', cur, e0, hb, hg, h1, h2, h3, h4⟩
  · simp at e0
  · simp only [Value.slice.injEq, Option.some.injEq, Addr.mk.injEq] at e0
    obtain ⟨⟨rfl, _⟩, _, rfl⟩ := e0
    by_cases hc : cap = q + 1
    · refine ⟨⟨g0, 0, none⟩, by rw [if_pos hc], fun j u hu => ?_⟩
      have hl := (List.getElem?_eq_some_iff.1 hu).1
      rw [flat_length, List.length_drop] at hl
      omega
    · refine ⟨⟨g0, (q + 1) * 3, none⟩, by rw [if_neg hc], fun j u hu => ?_⟩
      have hl := (List.getElem?_eq_some_iff.1 hu).1
      rw [flat_length, List.length_drop] at hl
      have hadd : (⟨g0, (q + 1) * 3, none⟩ : Addr).add j = ⟨g0, (q + 1) * 3 + j, none⟩ := by unfold Addr.add; split <;> simp_all
      rw [hadd, cell_of_row w g0 _ cur e (0, 0) hg]
      rw [flat_drop, List.getElem?_drop, ← h4, List.getElem?_take_of_lt (by omega)] at hu
      simpa using hu
theorem filter_cut {c : List En} {q : Nat} {z : En} (hz : c[q]? = some z) (hp : c.Pairwise fun x y => x.s ≠ y.s ∧ x.h ≠ y.h) : c.filter (fun y => !(y.h == z.h)) = c.take q ++ c.drop (q + 1) := by
  induction c generalizing q with
  | nil => simp at hz
  | cons a c ih =>
    have hp' := List.pairwise_cons.1 hp
    cases q with
    | zero =>
      obtain rfl : a = z := by simpa using hz
      rw [List.filter_cons_of_neg (by simp)]
      simp only [List.take_zero, List.nil_append, Nat.zero_add, List.drop_succ_cons, List.drop_zero]
      exact List.filter_eq_self.2 (fun u hu => by simpa using fun e => (hp'.1 u hu).2 e.symm)
    | succ q =>
      have hz' : c[q]? = some z := by simpa using hz
      have hne : a.h ≠ z.h := (hp'.1 z (List.mem_of_getElem? hz')).2
      rw [List.filter_cons_of_pos (by simpa using hne), ih hz' hp'.2]
      simp
theorem filter_swap (L : List En) (p r : En → Bool) : (L.filter p).filter r = (L.filter r).filter p := by
  rw [List.filter_filter, List.filter_filter]; congr 1; funext x; exact Bool.and_comm _ _
theorem St.chain_del {st : St} (o : st.Ok) {s : ByteArray} {q : Nat} {z : En} (hz : (st.chain (bk st.n s))[q]? = some z) (i : Nat) :
    (St.mk (st.L.filter fun y => !(y.h == z.h)) st.n st.q).chain i = if i = bk st.n s then (st.chain (bk st.n s)).take q ++ (st.chain (bk st.n s)).drop (q + 1) else st.chain i := by
  have hzc := List.mem_of_getElem? hz
  have hzb : bk st.n z.s = bk st.n s := by simpa using (List.mem_filter.1 hzc).2
  have hzL := (List.mem_filter.1 hzc).1
  have e : (St.mk (st.L.filter fun y => !(y.h == z.h)) st.n st.q).chain i = (st.chain i).filter fun y => !(y.h == z.h) := filter_swap _ _ _
  rw [e]
  by_cases h : i = bk st.n s
  · rw [if_pos h, h]
    exact filter_cut hz (List.Pairwise.filter _ o.once)
  · rw [if_neg h]
    refine List.filter_eq_self.2 (fun u hu => ?_)
    obtain ⟨huL, hub⟩ := List.mem_filter.1 hu
    have hne : u ≠ z := fun e => h (by rw [← hzb, ← e]; exact (by simpa using hub : bk st.n u.s = i).symm)
    simp only [Bool.not_eq_true', beq_eq_false_iff_ne]
    intro eh
    obtain ⟨j1, l1, rfl⟩ := List.mem_iff_getElem.1 huL
    obtain ⟨j2, l2, rfl⟩ := List.mem_iff_getElem.1 hzL
    have hp := List.pairwise_iff_getElem.1 o.once
    rcases Nat.lt_trichotomy j1 j2 with hj | hj | hj
    · exact (hp j1 j2 l1 l2 hj).2 eh
    · subst hj; exact hne rfl
    · exact (hp j2 j1 l2 l1 hj).2 eh.symm
theorem TabW.dropped {w w3 w4 : World} {S : Nat → Prop} {B A bm cap g0 cp0 g cp q : Nat} {vs : Nat → Value} {D D' : DataW Unit} {st : St} {s : ByteArray} {z : En} (h : TabW w S B A bm vs cap D st) (o : st.Ok) (hbl : bk st.n s < st.n)
    (hv : vs (bk st.n s) = .slice (some ⟨g0, 0, none⟩) (st.chain (bk st.n s)).length cp0) (hz : (st.chain (bk st.n s))[q]? = some z)
    (hg3 : w.grownBy w3 (some bm)) (hm3 : w3.ownsMap Try.prog 3 (plainElem Try.prog 9) bm st.q D') (hmo : MapOf (st.L.filter fun y => !(y.h == z.h)) D')
    (hg4 : w3.drew.grownBy w4 (some g0))
    (ho4 : w4.ownsRow 0 65 3 (.slice (some ⟨g, 0, none⟩) (q + ((st.chain (bk st.n s)).length - (q + 1))) cp) (q + ((st.chain (bk st.n s)).length - (q + 1))) (flat ((st.chain (bk st.n s)).take q) ++ flat ((st.chain (bk st.n s)).drop (q + 1))))
    (ht4 : g = g0 ∨ g = w3.drew.heap.size) (hl4 : g < w4.heap.size) (v' : Value) (hv' : v' = .slice (some ⟨g, 0, none⟩) (q + ((st.chain (bk st.n s)).length - (q + 1))) cp) :
    TabW (w4.setCell ⟨A, bk st.n s, none⟩ v') (ext S w (w4.setCell ⟨A, bk st.n s, none⟩ v')) B A bm (fun j => if j = bk st.n s then v' else vs j) cap D' ⟨st.L.filter fun y => !(y.h == z.h), st.n, st.q⟩ ∧ Only S w (w4.setCell ⟨A, bk st.n s, none⟩ v') := by
  obtain ⟨nAB, nmB, nmA, hoff⟩ := h.off
  obtain ⟨lB, lA, lm, lr⟩ := h.lts
  obtain ⟨oA, oB, om⟩ := hoff _ hbl
  rw [hv] at oA oB om
  simp only [Value.ownBlock, ne_eq, Option.some.injEq] at oA oB om
  have z3 : w.heap.size ≤ w3.heap.size := hg3.size
  have z4 : w3.heap.size ≤ w4.heap.size := hg4.size
  have s3 : ∀ k, k < w.heap.size → k ≠ bm → w3.heap[k]? = w.heap[k]? := fun k hk hn => hg3.block k hk (by simpa using hn)
  have s4 : ∀ k, k < w3.heap.size → k ≠ g0 → w4.heap[k]? = w3.heap[k]? := fun k hk hn => hg4.block k hk (by simpa using hn)
  generalize hw5 : w4.setCell ⟨A, bk st.n s, none⟩ v' = w5
  have s5 : ∀ k, k ≠ A → w5.heap[k]? = w4.heap[k]? := fun k hk => by rw [← hw5]; exact Below.heap_setCell _ _ _ _ hk
  have z5 : w5.heap.size = w4.heap.size := by rw [← hw5]; simp [World.setCell]
  have hl0 : g0 < w.heap.size := lr _ hbl g0 (by rw [hv]; rfl)
  have hgA : g ≠ A := by rcases ht4 with e | e
                         · rw [e]; exact oA
                         · have : w3.drew.heap.size = w3.heap.size := rfl
                           omega
  have hgB : g ≠ B := by rcases ht4 with e | e
                         · rw [e]; exact oB
                         · have : w3.drew.heap.size = w3.heap.size := rfl
                           omega
  have hcd := fun i => St.chain_del o hz i
  have hlen : ((st.chain (bk st.n s)).take q ++ (st.chain (bk st.n s)).drop (q + 1)).length = q + ((st.chain (bk st.n s)).length - (q + 1)) := by
    have := (List.getElem?_eq_some_iff.1 hz).1
    rw [List.length_append, List.length_take, List.length_drop]; omega
  refine h.step (st' := ⟨st.L.filter fun y => !(y.h == z.h), st.n, st.q⟩) (g := g) hbl rfl ?_ ?_ ?_ hmo (by rw [hv']; rfl) ?_ ?_ (fun i hi hne => by rw [hcd, if_neg hne]) (fun k hk h1 h2 h3 h4 => ?_) (by omega) ?_ ?_ ?_
  · exact (s5 B nAB.symm).trans ((s4 B (by omega) (fun e => oB e.symm)).trans ((s3 B lB nmB.symm).trans h.tb))
  · have r3 : w3.rowIs A 63 st.n vs := h.ch.of_block (s3 A lA nmA.symm)
    have r4 := (r3.of_block (s4 A (by omega) (fun e => oA e.symm))).set (bk st.n s) v'
    rw [hw5] at r4
    exact r4
  · obtain ⟨es, clock, e, r⟩ := hm3
    exact ⟨es, clock, (s5 bm nmA).trans ((s4 bm (by omega) (fun e => om e.symm)).trans e), r⟩
  · rw [hcd, if_pos rfl, hlen, flat_append, hv']
    refine row_of_block ho4 (fun k hk => ?_)
    obtain rfl : g = k := by simpa [Value.ownBlock] using hk
    exact s5 g hgA
  · rcases ht4 with e | e
    · exact Or.inl (by rw [hv, e]; rfl)
    · exact Or.inr (by have : w3.drew.heap.size = w3.heap.size := rfl
                       omega)
  · refine (s5 k h1).trans ((s4 k (by omega) (fun e => h4 (by rw [hv, e]; rfl))).trans (s3 k hk h3))
  · rw [← hw5]; exact hg4.os.trans hg3.os
  · rw [← hw5]; exact hg4.tape.trans hg3.tape
  · rw [← hw5]; exact hg4.output.trans hg3.output
theorem drop_nil (w : World) (x : Int) : Calls Try.prog 18 #[.pointer none, .int .i64 x] w fun e w' => e = .returned (.int .i64 2) ∧ w' = w := by
  go_enter Try.func18, Try.ntmps18
  go_wp2_with (go_at_call 31; refine (made_nil _).mono ?_; rintro e w1 ⟨rfl, rfl⟩)
  go_ret
  exact ⟨rfl, rfl⟩
theorem Tab.drop_none {w : World} {S : Nat → Prop} {B : Nat} {st : St} (h : Tab w S B st) (x : Int) (hw : (Lit.int .i64 x).wf = true) (ht : st.text x = none) :
    Calls Try.prog 18 #[.pointer (some ⟨B, 0, none⟩), .int .i64 x] w fun e w' => e = .returned (.int .i64 5) ∧ w' = w := by
  obtain ⟨o, A, bm, vs, cap, D, h⟩ := h
  obtain ⟨c0, c1, c2, cf⟩ := h.cells
  have hown := h.map
  have hhas := (h.mo.has_text x).trans (show (st.text x).isSome = false by simp [ht])
  clear h
  go_enter Try.func18, Try.ntmps18
  go_wp2_with (first | (go_at_call 31; refine (made_cells _ B bm c1).mono ?_; rintro e w1 ⟨rfl, rfl⟩) | (at_lookup; refine lookup_ok_str _ rfl _ _ 59 rfl 3 9 mlaw Try.underlying59 Try.underlying9 (zero9 _) bm _ D rfl hown _ _ rfl (mkey _ hw) ?_; intro c hat; rw [hhas]))
  go_ret
  exact ⟨rfl, rfl⟩
def St.del (st : St) (x : Int) : St := ⟨st.L.filter fun y => !(y.h == x), if 4 < st.n ∧ 4 * (st.L.filter fun y => !(y.h == x)).length < st.n then st.n / 2 else st.n, st.q⟩
theorem St.text_some {st : St} {x : Int} {s : ByteArray} (h : st.text x = some s) : ∃ y ∈ st.L, y.h = x ∧ y.s = s := by
  unfold St.text at h
  obtain ⟨y, hy, e⟩ := Option.map_eq_some_iff.1 h
  exact ⟨y, List.mem_of_find?_eq_some hy, by simpa using List.find?_some hy, e⟩
theorem St.Ok.deled {st : St} (o : st.Ok) (x : Int) : (st.del x).Ok := by
  obtain ⟨a1, ⟨k, a2⟩, a3, a4, a5, a6, a7, a8, a9, a10, a11⟩ := o
  have hl := List.length_filter_le (fun y => !(y.h == x)) st.L
  have h8 : 4 < st.n → 8 ≤ st.n := fun h => by
    rw [a2] at h ⊢
    rcases Nat.lt_or_ge k 3 with h3 | h3
    · obtain rfl | rfl | rfl : k = 0 ∨ k = 1 ∨ k = 2 := by omega
      all_goals simp at h
    · have h := Nat.pow_le_pow_right (n := 2) (by decide) h3; simpa using h
  unfold St.del
  refine ⟨?_, ?_, ?_, ?_, ?_, a6, fun y hy => a7 y (List.mem_filter.1 hy).1, fun y hy => a8 y (List.mem_filter.1 hy).1, fun y hy => a9 y (List.mem_filter.1 hy).1, a10.filter _, a11.filter _⟩
  · dsimp only; split
    · have := h8 (by omega); omega
    · exact a1
  · dsimp only; split
    · rename_i hh
      have h9 := h8 hh.1
      cases k with
      | zero => simp at a2; omega
      | succ k => exact ⟨k, by rw [a2, Nat.pow_succ]; omega⟩
    · exact ⟨k, a2⟩
  · dsimp only; split <;> omega
  · dsimp only; omega
  · dsimp only; split <;> omega
set_option maxHeartbeats 4000000 in
set_option maxRecDepth 100000 in
theorem Tab.drop_some {w : World} {S : Nat → Prop} {B : Nat} {st : St} (h : Tab w S B st) (x : Int) (hw : (Lit.int .i64 x).wf = true) (s : ByteArray) (ht : st.text x = some s)
    (hR : (4 < st.n ∧ 4 * (st.L.filter fun y => !(y.h == x)).length < st.n) → RenewOk ⟨st.L.filter fun y => !(y.h == x), st.n, st.q⟩ (st.n / 2)) :
    Calls Try.prog 18 #[.pointer (some ⟨B, 0, none⟩), .int .i64 x] w fun e w' => e = .returned (.int .i64 0) ∧ Tab w' (ext S w w') B (st.del x) ∧ Only S w w' := by
  obtain ⟨y, hyL, hyx, hys⟩ := St.text_some ht
  have HY := Aside0.mk (show ∃ y ∈ st.L, y.h = x from ⟨y, hyL, hyx⟩)
  have hsm : s.size ≤ maxLen := hys ▸ h.1.len y hyL
  have ht2 : (st.text x).isSome = true := by simp [ht]
  have ht3 : (st.text x).getD ByteArray.empty = s := by simp [ht]
  have OK := Aside0.mk h.1
  have hn4 := h.1.pos
  have hn5 : st.n ≤ 1048576 := by have := h.1.few; have := h.1.q; omega
  have hbl := bk_lt st.n s (by omega) hn5
  have hbs := Aside0.mk (bucket_some s st.n hsm (by omega) hn5)
  obtain ⟨o, A, bm, vs, cap, D, h1⟩ := h
  obtain ⟨c0, c1, c2, cf⟩ := h1.cells
  have hown := h1.map
  have hhas := (h1.mo.has_text x).trans ht2
  have HT := Aside0.mk h1
  have HME := Aside0.mk (fun c hc => (h1.mo.text (h := x) (c := c) hc).1.trans ht3)
  obtain ⟨nAB, nmB, nmA, hoff⟩ := h1.off
  have HO := Aside0.mk (hoff _ hbl)
  have hyc : y ∈ st.chain (bk st.n s) := List.mem_filter.2 ⟨hyL, by simp [hys]⟩
  have hclen : 0 < (st.chain (bk st.n s)).length := List.length_pos_of_mem hyc
  obtain ⟨g0, cp0, hv, _, _⟩ := (h1.row _ hbl).form hclen
  have HV := Aside0.mk hv
  have HCP : Aside0 ((st.chain (bk st.n s)).length ≤ cp0 ∧ cp0 ≤ maxLen) := ⟨row_cap (by have := h1.row _ hbl; rw [hv] at this; exact this)⟩
  have HYC := Aside0.mk (show ∃ y ∈ st.chain (bk st.n s), y.h = x from ⟨y, hyc, hyx⟩)
  have HCL : Aside0 ((st.chain (bk st.n s)).length ≤ 1000) := ⟨Nat.le_trans (List.length_filter_le _ _) (Nat.le_trans o.many o.q)⟩
  clear hoff h1 o ht hyx hys hyL hyc hv
  go_enter Try.func18, Try.ntmps18
  go_wp2_with (first | (go_at_call 31; refine (made_cells _ B bm c1).mono ?_; rintro e w1 ⟨rfl, hw1⟩; have hw1 := hw1.symm; subst hw1) | (at_lookup; refine lookup_ok_str _ rfl _ _ 59 rfl 3 9 mlaw Try.underlying59 Try.underlying9 (zero9 _) bm _ D rfl hown _ _ rfl (mkey _ hw) ?_; intro c hat; rw [hhas]; have hat := (HME.out c hat).symm; subst hat) | (at_delete; refine wpList_delete_own _ rfl _ _ 59 3 rfl 9 mlaw Try.underlying59 _ bm _ D rfl hown _ _ rfl (mkey _ hw) ?_; intro w1 hown1 hturn1; have HO1 := Aside0.mk hown1; have HG1 := Aside0.mk hturn1.grown; have HB1 : Aside0 (w1.heap[B]? = w.heap[B]?) := ⟨HG1.out.block B HT.out.lts.1 (by simpa using nmB.symm)⟩; have HA1 : Aside0 (w1.heap[A]? = w.heap[A]?) := ⟨HG1.out.block A HT.out.lts.2.1 (by simpa using nmA.symm)⟩; clear hown1 hturn1; have c01 := (World.cell?_of_block (a := ⟨B, 0, none⟩) HB1.out).trans c0) | (go_at_call 32; refine (strtab_bucket.calls _ _ _ _ _ hbs.out).mono ?_; rintro e w2 ⟨rfl, hd⟩; obtain ⟨n2, hd2⟩ := hd.out; subst hd2; have hcell := ((World.cell?_of_block (a := ⟨A, bk st.n s, none⟩) HA1.out).trans (HT.out.ch.cell hbl)).trans (congrArg some HV.out); have hb0 : (0 : Int) ≤ (bk st.n s : Int) := (by omega); have hb1 : (bk st.n s : Int) < (st.n : Int) := (by omega)))
  have HG2 : Aside0 (w.grownBy (w1.drewN n2) (some bm)) := ⟨HG1.out.trans (grown_drewN _ _ _)⟩
  have HO2 : Aside0 ((w1.drewN n2).ownsMap Try.prog 3 (plainElem Try.prog 9) bm st.q (D.del (.int .i64 x))) := ⟨by obtain ⟨es, clock, e, r⟩ := HO1.out; exact ⟨es, clock, ((grown_drewN w1 n2 none).block bm (Array.getElem?_eq_some_iff.1 e).1 (by simp)).trans e, r⟩⟩
  have hcell2 : (w1.drewN n2).cell? ⟨A, bk st.n s, none⟩ = some (.slice (some ⟨g0, 0, none⟩) (st.chain (bk st.n s)).length cp0) := by rw [← hcell]; exact World.cell?_of_block ((grown_drewN w1 n2 none).block A (Nat.lt_of_lt_of_le HT.out.lts.2.1 HG1.out.size) (by simp))
  have c02 : (w1.drewN n2).cell? ⟨B, 0, none⟩ = some (.slice (some ⟨A, 0, none⟩) st.n cap) := by rw [← c01]; exact World.cell?_of_block ((grown_drewN w1 n2 none).block B (Nat.lt_of_lt_of_le HT.out.lts.1 HG1.out.size) (by simp))
  clear hcell c01 c0 c1 c2 cf hown hhas HG1 HO1 HB1 HA1 hd hat
  generalize hw2 : w1.drewN n2 = w2 at HG2 HO2 hcell2 c02 ⊢
  clear hw2
  have HCC : Aside0 (∀ k z, (st.chain (bk st.n s))[k]? = some z → w2.cell? ⟨g0, k * 3, none⟩ = some (.string z.s) ∧ w2.cell? ⟨g0, k * 3 + 1, none⟩ = some (.int .i64 z.h) ∧ w2.cell? ⟨g0, k * 3 + 2, none⟩ = some (.int .i64 z.q)) := ⟨fun k z hz => by
    obtain ⟨p, cp, e, hx⟩ := ownsRow_val (HT.out.row _ hbl)
    obtain ⟨g, e1, e2, x0, x1, x2⟩ := hx k z hz
    have eg : g = g0 := by rw [HV.out] at e2; simpa [Value.ownBlock] using e2.symm
    subst eg
    have hb := HG2.out.block g (World.block_lt_of_cell? w _ x0) (fun e3 => HO.out.2.2 (by rw [HV.out]; simpa [Value.ownBlock] using e3))
    exact ⟨(World.cell?_of_block (a := ⟨g, k * 3, none⟩) hb).trans x0, (World.cell?_of_block (a := ⟨g, k * 3 + 1, none⟩) hb).trans x1, (World.cell?_of_block (a := ⟨g, k * 3 + 2, none⟩) hb).trans x2⟩⟩
  go_loopw [44] (fun i wr => ∃ q : Nat, q ≤ (st.chain (bk st.n s)).length ∧ i = .int .i64 q ∧ Aside0 (∀ j y, j < q → (st.chain (bk st.n s))[j]? = some y → y.h ≠ x) ∧ Aside0 (Below w2.heap.size w2 wr)) (fun i _ => (st.chain (bk st.n s)).length - (intOf i).toNat)
  case atStart => exact ⟨0, by omega, rfl, ⟨fun j y hj => by omega⟩, ⟨Below.refl _ _⟩⟩
  case round =>
    obtain ⟨q, hq, rfl, HJ, HB⟩ := hrel
    have hlt : q < (st.chain (bk st.n s)).length := by
      obtain ⟨y, hy, e⟩ := HYC.out
      obtain ⟨j, hj, rfl⟩ := List.mem_iff_getElem.1 hy
      rcases Nat.lt_or_ge q (st.chain (bk st.n s)).length with h | h
      · exact h
      · exact absurd e (HJ.out j _ (by omega) (List.getElem?_eq_getElem hj))
    have hlt0 : (q : Int) < ((st.chain (bk st.n s)).length : Int) := by omega
    obtain ⟨z, hzq⟩ : ∃ z, (st.chain (bk st.n s))[q]? = some z := ⟨_, List.getElem?_eq_getElem hlt⟩
    obtain ⟨x0, x1, x2⟩ := HCC.out q z hzq
    replace x0 := (HB.out.cell (World.block_lt_of_cell? w2 _ x0)).trans x0
    replace x1 := (HB.out.cell (World.block_lt_of_cell? w2 _ x1)).trans x1
    replace x2 := (HB.out.cell (World.block_lt_of_cell? w2 _ x2)).trans x2
    have HXQ := Aside0.mk hzq
    clear hzq
    obtain ⟨zs, zh, zq⟩ := z
    dsimp only at x0 x1 x2
    by_cases hs2 : zh = x
    · subst hs2
      go_wp2
      have HB3 : Aside0 (Below w2.heap.size w2 (wr.alloc (Obj.cells #[Value.string zs, Value.int IntKind.i64 zh, Value.int IntKind.i64 zq] 65))) := ⟨below_alloc HB.out _⟩
      clear x0 x1 x2 HB
      generalize wr.alloc (Obj.cells #[Value.string zs, Value.int IntKind.i64 zh, Value.int IntKind.i64 zq] 65) = w3 at HB3 ⊢
      have c03 := (HB3.out.cell (p := ⟨B, 0, none⟩) (World.block_lt_of_cell? w2 _ c02)).trans c02
      have hcell3 := (HB3.out.cell (p := ⟨A, bk st.n s, none⟩) (World.block_lt_of_cell? w2 _ hcell2)).trans hcell2
      have hq1 : (0 : Int) ≤ (q : Int) := by omega
      have hq2 : (q : Int) ≤ (cp0 : Int) := by have := HCP.out; omega
      have hq3 : ((q : Int) + 1) ≤ ((st.chain (bk st.n s)).length : Int) := by omega
      have hq4 : (0 : Int) ≤ (q : Int) + 1 := by omega
      have hwk : wrap64 ((q : Int) + 1) = (q : Int) + 1 := by have := HCL.out; unfold wrap64; omega
      have LA3 : Aside0 (A < w3.heap.size) := ⟨World.block_lt_of_cell? w3 _ hcell3⟩
      have LB3 : Aside0 (B < w3.heap.size) := ⟨World.block_lt_of_cell? w3 _ c03⟩
      have HgA : Aside0 (A ≠ g0) := ⟨fun e => HO.out.1 (by rw [HV.out, e]; rfl)⟩
      have HgB : Aside0 (B ≠ g0) := ⟨fun e => HO.out.2.1 (by rw [HV.out, e]; rfl)⟩
      have Hgm : Aside0 (g0 ≠ bm) := ⟨fun e => HO.out.2.2 (by rw [HV.out, e]; rfl)⟩
      have HW3 : Aside0 (∀ k, k < w.heap.size → k ≠ bm → w3.heap[k]? = w.heap[k]?) := ⟨fun k hk hne => (HB3.out.block k (Nat.lt_of_lt_of_le hk HG2.out.size)).trans (HG2.out.block k hk (by simpa using hne))⟩
      have hfr3 : w3.frozen? ⟨A, bk st.n s, none⟩ = false := (World.frozen?_of_block (a := ⟨A, bk st.n s, none⟩) (HW3.out A HT.out.lts.2.1 nmA.symm)).trans (HT.out.ch.frozen _)
      have HRW : Aside0 (w3.ownsRow 0 65 3 (.slice (some ⟨g0, 0, none⟩) (st.chain (bk st.n s)).length cp0) (st.chain (bk st.n s)).length (flat (st.chain (bk st.n s)))) := ⟨by
        have h := HT.out.row _ hbl
        rw [HV.out] at h
        exact row_of_block h (fun k hk => by obtain rfl : g0 = k := by simpa [Value.ownBlock] using hk
                                             exact HW3.out g0 (h.lt g0 rfl).2 Hgm.out)⟩
      have HRD : Aside0 (w3.drew.ownsRow 0 65 3 (.slice (some ⟨g0, 0, none⟩) q cp0) q (flat ((st.chain (bk st.n s)).take q))) := ⟨row_prefix HRW.out (by omega)⟩
      obtain ⟨AD, hAD, hnw⟩ := row_tail (w := w3) HRW.out hlt
      have HNW : Aside0 (∀ j u, (flat ((st.chain (bk st.n s)).drop (q + 1)))[j]? = some u → w3.drew.cell? (AD.add j) = some u) := ⟨hnw⟩
      have HN1 : Aside0 (∀ u ∈ flat ((st.chain (bk st.n s)).drop (q + 1)), u.oneCell' = true) := ⟨flat_one _⟩
      have HNL : Aside0 ((flat ((st.chain (bk st.n s)).drop (q + 1))).length = ((st.chain (bk st.n s)).length - (q + 1)) * 3) := ⟨by rw [flat_length, List.length_drop]⟩
      obtain ⟨i0, hi0, hz0, hz1, hz2⟩ := info_parts info65
      clear hnw
      refine start_ (n := 27) (S := fun w' => w'.cell? ⟨B, 0, none⟩ = some (.slice (some ⟨A, 0, none⟩) st.n cap) ∧ w'.cell? ⟨A, bk st.n s, none⟩ = some (.slice (some ⟨g0, 0, none⟩) (st.chain (bk st.n s)).length cp0)) (ds := [26]) #[false, false, false, false, false, false, false, false, false, false, false, false, false, false, false, false, false, false, false, false, false, false, false, false, false, false, false] (by kernel_rfl) rfl rfl ⟨c03, hcell3⟩ (fun hHeld => ?_)
      refine pure_ (i := 0) (N := (some 53)) (v := ?_) (a' := ?_) #[true, false, false, false, false, false, false, false, false, false, false, false, false, false, false, false, false, false, false, false, false, false, false, false, false, false, false] rfl rfl (by kernel_rfl) (fun _ _ _ h => h) (Or.inl ⟨by rfl, ?_⟩) ?_ ?_
      rotate_left
      · intro w'
        go_simp
        with_reducible rfl
      rotate_left
      · simp only [Act.put, List.setIfInBounds_toArray, List.set_cons_zero, List.set_cons_succ, i64_w, i32_w]
        rfl
      refine pure_ (i := 1) (N := (some 54)) (v := ?_) (a' := ?_) #[true, true, false, false, false, false, false, false, false, false, false, false, false, false, false, false, false, false, false, false, false, false, false, false, false, false, false] rfl rfl (by kernel_rfl) (fun _ _ _ h => h) (Or.inl ⟨by rfl, ?_⟩) ?_ ?_
      rotate_left
      · intro w'
        go_simp
        with_reducible rfl
      rotate_left
      · simp only [Act.put, List.setIfInBounds_toArray, List.set_cons_zero, List.set_cons_succ, i64_w, i32_w]
        rfl
      refine pure_ (i := 2) (N := (some 55)) (v := ?_) (a' := ?_) #[true, true, true, false, false, false, false, false, false, false, false, false, false, false, false, false, false, false, false, false, false, false, false, false, false, false, false] rfl rfl (by kernel_rfl) (fun _ _ _ h => h) (Or.inl ⟨by rfl, ?_⟩) ?_ ?_
      rotate_left
      · intro w'
        go_simp
        with_reducible rfl
      rotate_left
      · simp only [Act.put, List.setIfInBounds_toArray, List.set_cons_zero, List.set_cons_succ, i64_w, i32_w]
        rfl
      refine take_ (i := 3) (N := (some 56)) (v := ?_) (a' := ?_) #[true, true, true, true, false, false, false, false, false, false, false, false, false, false, false, false, false, false, false, false, false, false, false, false, false, false, false] rfl rfl (by kernel_rfl) (fun _ _ _ h => h) (Or.inl ⟨by rfl, ?_⟩) hHeld ?_ ?_
      rotate_left
      · rintro w' ⟨s0, s1⟩
        go_simp
        with_reducible rfl
      rotate_left
      · simp only [Act.put, List.setIfInBounds_toArray, List.set_cons_zero, List.set_cons_succ, i64_w, i32_w]
        rfl
      refine pure_ (i := 4) (N := (some 57)) (v := ?_) (a' := ?_) #[true, true, true, true, true, false, false, false, false, false, false, false, false, false, false, false, false, false, false, false, false, false, false, false, false, false, false] rfl rfl (by kernel_rfl) (fun _ _ _ h => h) (Or.inl ⟨by rfl, ?_⟩) ?_ ?_
      rotate_left
      · intro w'
        go_simp
        with_reducible rfl
      rotate_left
      · simp only [Act.put, List.setIfInBounds_toArray, List.set_cons_zero, List.set_cons_succ, i64_w, i32_w]
        rfl
      refine pure_ (i := 5) (N := (some 58)) (v := ?_) (a' := ?_) #[true, true, true, true, true, true, false, false, false, false, false, false, false, false, false, false, false, false, false, false, false, false, false, false, false, false, false] rfl rfl (by kernel_rfl) (fun _ _ _ h => h) (Or.inl ⟨by rfl, ?_⟩) ?_ ?_
      rotate_left
      · intro w'
        go_simp
        with_reducible rfl
      rotate_left
      · simp only [Act.put, List.setIfInBounds_toArray, List.set_cons_zero, List.set_cons_succ, i64_w, i32_w]
        rfl
      refine pure_ (i := 6) (N := (some 59)) (v := ?_) (a' := ?_) #[true, true, true, true, true, true, true, false, false, false, false, false, false, false, false, false, false, false, false, false, false, false, false, false, false, false, false] rfl rfl (by kernel_rfl) (fun _ _ _ h => h) (Or.inl ⟨by rfl, ?_⟩) ?_ ?_
      rotate_left
      · intro w'
        go_simp
        with_reducible rfl
      rotate_left
      · simp only [Act.put, List.setIfInBounds_toArray, List.set_cons_zero, List.set_cons_succ, i64_w, i32_w]
        rfl
      refine pure_ (i := 7) (N := (some 60)) (v := ?_) (a' := ?_) #[true, true, true, true, true, true, true, true, false, false, false, false, false, false, false, false, false, false, false, false, false, false, false, false, false, false, false] rfl rfl (by kernel_rfl) (fun _ _ _ h => h) (Or.inl ⟨by rfl, ?_⟩) ?_ ?_
      rotate_left
      · intro w'
        go_simp
        with_reducible rfl
      rotate_left
      · simp only [Act.put, List.setIfInBounds_toArray, List.set_cons_zero, List.set_cons_succ, i64_w, i32_w]
        rfl
      refine take_ (i := 8) (N := (some 61)) (v := ?_) (a' := ?_) #[true, true, true, true, true, true, true, true, true, false, false, false, false, false, false, false, false, false, false, false, false, false, false, false, false, false, false] rfl rfl (by kernel_rfl) (fun _ _ _ h => h) (Or.inl ⟨by rfl, ?_⟩) hHeld ?_ ?_
      rotate_left
      · rintro w' ⟨s0, s1⟩
        go_simp
        with_reducible rfl
      rotate_left
      · simp only [Act.put, List.setIfInBounds_toArray, List.set_cons_zero, List.set_cons_succ, i64_w, i32_w]
        rfl
      refine pure_ (i := 9) (N := (some 62)) (v := ?_) (a' := ?_) #[true, true, true, true, true, true, true, true, true, true, false, false, false, false, false, false, false, false, false, false, false, false, false, false, false, false, false] rfl rfl (by kernel_rfl) (fun _ _ _ h => h) (Or.inl ⟨by rfl, ?_⟩) ?_ ?_
      rotate_left
      · intro w'
        go_simp
        with_reducible rfl
      rotate_left
      · simp only [Act.put, List.setIfInBounds_toArray, List.set_cons_zero, List.set_cons_succ, i64_w, i32_w]
        rfl
      refine pure_ (i := 10) (N := (some 63)) (v := ?_) (a' := ?_) #[true, true, true, true, true, true, true, true, true, true, true, false, false, false, false, false, false, false, false, false, false, false, false, false, false, false, false] rfl rfl (by kernel_rfl) (fun _ _ _ h => h) (Or.inl ⟨by rfl, ?_⟩) ?_ ?_
      rotate_left
      · intro w'
        go_simp
        with_reducible rfl
      rotate_left
      · simp only [Act.put, List.setIfInBounds_toArray, List.set_cons_zero, List.set_cons_succ, i64_w, i32_w]
        rfl
      refine take_ (i := 11) (N := (some 64)) (v := ?_) (a' := ?_) #[true, true, true, true, true, true, true, true, true, true, true, true, false, false, false, false, false, false, false, false, false, false, false, false, false, false, false] rfl rfl (by kernel_rfl) (fun _ _ _ h => h) (Or.inl ⟨by rfl, ?_⟩) hHeld ?_ ?_
      rotate_left
      · rintro w' ⟨s0, s1⟩
        go_simp
        with_reducible rfl
      rotate_left
      · simp only [Act.put, List.setIfInBounds_toArray, List.set_cons_zero, List.set_cons_succ, i64_w, i32_w]
        rfl
      refine pure_ (i := 12) (N := (some 65)) (v := ?_) (a' := ?_) #[true, true, true, true, true, true, true, true, true, true, true, true, true, false, false, false, false, false, false, false, false, false, false, false, false, false, false] rfl rfl (by kernel_rfl) (fun _ _ _ h => h) (Or.inl ⟨by rfl, ?_⟩) ?_ ?_
      rotate_left
      · intro w'
        go_simp
        with_reducible rfl
      rotate_left
      · simp only [Act.put, List.setIfInBounds_toArray, List.set_cons_zero, List.set_cons_succ, i64_w, i32_w]
        rfl
      refine pure_ (i := 13) (N := (some 66)) (v := ?_) (a' := ?_) #[true, true, true, true, true, true, true, true, true, true, true, true, true, true, false, false, false, false, false, false, false, false, false, false, false, false, false] rfl rfl (by kernel_rfl) (fun _ _ _ h => h) (Or.inl ⟨by rfl, ?_⟩) ?_ ?_
      rotate_left
      · intro w'
        go_simp
        with_reducible rfl
      rotate_left
      · simp only [Act.put, List.setIfInBounds_toArray, List.set_cons_zero, List.set_cons_succ, i64_w, i32_w]
        rfl
      refine pure_ (i := 14) (N := (some 67)) (v := ?_) (a' := ?_) #[true, true, true, true, true, true, true, true, true, true, true, true, true, true, true, false, false, false, false, false, false, false, false, false, false, false, false] rfl rfl (by kernel_rfl) (fun _ _ _ h => h) (Or.inl ⟨by rfl, ?_⟩) ?_ ?_
      rotate_left
      · intro w'
        go_simp
        with_reducible rfl
      rotate_left
      · simp only [Act.put, List.setIfInBounds_toArray, List.set_cons_zero, List.set_cons_succ, i64_w, i32_w]
        rfl
      refine pure_ (i := 15) (N := (some 68)) (v := ?_) (a' := ?_) #[true, true, true, true, true, true, true, true, true, true, true, true, true, true, true, true, false, false, false, false, false, false, false, false, false, false, false] rfl rfl (by kernel_rfl) (fun _ _ _ h => h) (Or.inl ⟨by rfl, ?_⟩) ?_ ?_
      rotate_left
      · intro w'
        go_simp
        with_reducible rfl
      rotate_left
      · simp only [Act.put, List.setIfInBounds_toArray, List.set_cons_zero, List.set_cons_succ, i64_w, i32_w]
        rfl
      refine pure_ (i := 16) (N := (some 69)) (v := ?_) (a' := ?_) #[true, true, true, true, true, true, true, true, true, true, true, true, true, true, true, true, true, false, false, false, false, false, false, false, false, false, false] rfl rfl (by kernel_rfl) (fun _ _ _ h => h) (Or.inl ⟨by rfl, ?_⟩) ?_ ?_
      rotate_left
      · intro w'
        go_simp
        with_reducible rfl
      rotate_left
      · simp only [Act.put, List.setIfInBounds_toArray, List.set_cons_zero, List.set_cons_succ, i64_w, i32_w]
        rfl
      refine take_ (i := 17) (N := (some 70)) (v := ?_) (a' := ?_) #[true, true, true, true, true, true, true, true, true, true, true, true, true, true, true, true, true, true, false, false, false, false, false, false, false, false, false] rfl rfl (by kernel_rfl) (fun _ _ _ h => h) (Or.inl ⟨by rfl, ?_⟩) hHeld ?_ ?_
      rotate_left
      · rintro w' ⟨s0, s1⟩
        go_simp
        with_reducible rfl
      rotate_left
      · simp only [Act.put, List.setIfInBounds_toArray, List.set_cons_zero, List.set_cons_succ, i64_w, i32_w]
        rfl
      refine pure_ (i := 18) (N := (some 71)) (v := ?_) (a' := ?_) #[true, true, true, true, true, true, true, true, true, true, true, true, true, true, true, true, true, true, true, false, false, false, false, false, false, false, false] rfl rfl (by kernel_rfl) (fun _ _ _ h => h) (Or.inl ⟨by rfl, ?_⟩) ?_ ?_
      rotate_left
      · intro w'
        go_simp
        with_reducible rfl
      rotate_left
      · simp only [Act.put, List.setIfInBounds_toArray, List.set_cons_zero, List.set_cons_succ, i64_w, i32_w]
        rfl
      refine pure_ (i := 19) (N := (some 72)) (v := ?_) (a' := ?_) #[true, true, true, true, true, true, true, true, true, true, true, true, true, true, true, true, true, true, true, true, false, false, false, false, false, false, false] rfl rfl (by kernel_rfl) (fun _ _ _ h => h) (Or.inl ⟨by rfl, ?_⟩) ?_ ?_
      rotate_left
      · intro w'
        go_simp
        with_reducible rfl
      rotate_left
      · simp only [Act.put, List.setIfInBounds_toArray, List.set_cons_zero, List.set_cons_succ, i64_w, i32_w]
        rfl
      refine take_ (i := 20) (N := (some 73)) (v := ?_) (a' := ?_) #[true, true, true, true, true, true, true, true, true, true, true, true, true, true, true, true, true, true, true, true, true, false, false, false, false, false, false] rfl rfl (by kernel_rfl) (fun _ _ _ h => h) (Or.inl ⟨by rfl, ?_⟩) hHeld ?_ ?_
      rotate_left
      · rintro w' ⟨s0, s1⟩
        go_simp
        with_reducible rfl
      rotate_left
      · simp only [Act.put, List.setIfInBounds_toArray, List.set_cons_zero, List.set_cons_succ, i64_w, i32_w]
        rfl
      refine pure_ (i := 21) (N := (some 74)) (v := ?_) (a' := ?_) #[true, true, true, true, true, true, true, true, true, true, true, true, true, true, true, true, true, true, true, true, true, true, false, false, false, false, false] rfl rfl (by kernel_rfl) (fun _ _ _ h => h) (Or.inl ⟨by rfl, ?_⟩) ?_ ?_
      rotate_left
      · intro w'
        go_simp
        with_reducible rfl
      rotate_left
      · simp only [Act.put, List.setIfInBounds_toArray, List.set_cons_zero, List.set_cons_succ, i64_w, i32_w]
        rfl
      refine pure_ (i := 22) (N := (some 75)) (v := ?_) (a' := ?_) #[true, true, true, true, true, true, true, true, true, true, true, true, true, true, true, true, true, true, true, true, true, true, true, false, false, false, false] rfl rfl (by kernel_rfl) (fun _ _ _ h => h) (Or.inl ⟨by rfl, ?_⟩) ?_ ?_
      rotate_left
      · intro w'
        go_simp
        with_reducible rfl
      rotate_left
      · simp only [Act.put, List.setIfInBounds_toArray, List.set_cons_zero, List.set_cons_succ, i64_w, i32_w]
        rfl
      refine pure_ (i := 23) (N := (some 76)) (v := ?_) (a' := ?_) #[true, true, true, true, true, true, true, true, true, true, true, true, true, true, true, true, true, true, true, true, true, true, true, true, false, false, false] rfl rfl (by kernel_rfl) (fun _ _ _ h => h) (Or.inl ⟨by rfl, ?_⟩) ?_ ?_
      rotate_left
      · intro w'
        go_simp
        with_reducible rfl
      rotate_left
      · simp only [Act.put, List.setIfInBounds_toArray, List.set_cons_zero, List.set_cons_succ, i64_w, i32_w]
        rfl
      refine one_ (i := 24) (N := (some 77)) #[true, true, true, true, true, true, true, true, true, true, true, true, true, true, true, true, true, true, true, true, true, true, true, true, true, false, false] rfl rfl (by kernel_rfl) (by decide) (fun K hK => ?_)
      refine step_append_on _ rfl (.tmp 66) (.tmp 76) 63 rfl 0 65 i0 _ 3 32 Try.underlying63 hi0 hz0 hz1 hz2 rfl (by decide) g0 cp0 q (flat ((st.chain (bk st.n s)).take q)) rfl HRD.out AD ((st.chain (bk st.n s)).length - (q + 1)) (cp0 - (q + 1)) (flat ((st.chain (bk st.n s)).drop (q + 1))) rfl HNL.out HNW.out HN1.out (by have := HCL.out; unfold maxLen; omega) (by have := HCL.out; omega) (Nat.zero_le _) ?_
      intro g cp w4 hown4 hgrow4 hat4 hlt4
      have HA4 : Aside0 (w4.heap[A]? = w3.heap[A]?) := ⟨hgrow4.block A LA3.out (by simpa using HgA.out)⟩
      have HB4 : Aside0 (w4.heap[B]? = w3.heap[B]?) := ⟨hgrow4.block B LB3.out (by simpa using HgB.out)⟩
      have hcell4 := (World.cell?_of_block (a := ⟨A, bk st.n s, none⟩) HA4.out).trans hcell3
      have hfr4 : w4.frozen? ⟨A, bk st.n s, none⟩ = false := (World.frozen?_of_block (a := ⟨A, bk st.n s, none⟩) HA4.out).trans hfr3
      have HG4 := Aside0.mk hgrow4
      have HO4 := Aside0.mk hown4
      have HT4 := Aside0.mk hat4
      have HL4 := Aside0.mk hlt4
      clear hgrow4 hown4 hat4 hlt4
      refine hK.out _ _ ⟨(World.cell?_of_block (a := ⟨B, 0, none⟩) HB4.out).trans c03, hcell4⟩ (fun hHeld => ?_)
      clear hK K
      refine norm_ (a' := ?_) ?_ ?_
      rotate_left
      · simp only [Act.put, List.setIfInBounds_toArray, List.set_cons_zero, List.set_cons_succ, i64_w, i32_w]
        rfl
      refine pure_ (i := 25) (N := (some 78)) (v := ?_) (a' := ?_) #[true, true, true, true, true, true, true, true, true, true, true, true, true, true, true, true, true, true, true, true, true, true, true, true, true, true, false] rfl rfl (by kernel_rfl) (fun _ _ _ h => h) (Or.inl ⟨by rfl, ?_⟩) ?_ ?_
      rotate_left
      · intro w'
        go_simp
        with_reducible rfl
      rotate_left
      · simp only [Act.put, List.setIfInBounds_toArray, List.set_cons_zero, List.set_cons_succ, i64_w, i32_w]
        rfl
      refine last_ (i := 26) (N := none) #[true, true, true, true, true, true, true, true, true, true, true, true, true, true, true, true, true, true, true, true, true, true, true, true, true, true, true] rfl rfl (by kernel_rfl) (by decide) (fun K hK => ?_)
      go_simp
      refine hK.out _ _ ?_
      clear hK K
      refine done_ (by kernel_rfl) ?_
      have HM3 : Aside0 (w3.ownsMap Try.prog 3 (plainElem Try.prog 9) bm st.q (D.del (.int .i64 zh))) := ⟨by obtain ⟨es, clock, e, r⟩ := HO2.out; exact ⟨es, clock, (HB3.out.block bm (Array.getElem?_eq_some_iff.1 e).1).trans e, r⟩⟩
      have HG3 : Aside0 (w.grownBy w3 (some bm)) := ⟨HG2.out.trans ⟨HB3.out.os, HB3.out.tape, HB3.out.output, HB3.out.size, fun k hk _ => HB3.out.block k hk⟩⟩
      obtain ⟨H5, ON5⟩ := HT.out.dropped OK.out hbl HV.out HXQ.out HG3.out HM3.out (HT.out.mo.del (HT.out.map.tidy mlaw) zh HY.out OK.out.once) HG4.out HO4.out HT4.out HL4.out _ rfl
      dsimp only at H5 ON5
      have HLL : Aside0 ((st.L.filter fun y => !(y.h == zh)).length ≤ 1000) := ⟨Nat.le_trans (List.length_filter_le _ _) (Nat.le_trans OK.out.many OK.out.q)⟩
      clear c03 hcell3 hfr3 hcell4 hfr4 HA4 HB4 HG4 HO4 HT4 HL4 hHeld HRD HNW HN1 HNL hAD hi0 hz0 hz1 hz2 HRW HW3 LA3 LB3 HgA HgB Hgm HM3 HG3 hq1 hq2 hq3 hq4 hwk HXQ
      generalize w4.setCell ⟨A, bk st.n s, none⟩ (.slice (some ⟨g, 0, none⟩) (q + ((st.chain (bk st.n s)).length - (q + 1))) cp) = w5 at H5 ON5 ⊢
      have H5 := Aside0.mk H5
      have ON5 := Aside0.mk ON5
      have c05 := H5.out.cells.1
      have c15 := H5.out.cells.2.1
      have hown5 := H5.out.map
      have hsz5 : Maps.size (D.del (.int .i64 zh)) = (st.L.filter fun y => !(y.h == zh)).length := H5.out.mo.size
      dsimp only at c05 c15 hown5
      go_wp2
      by_cases h4 : 4 < st.n
      · have h4a : (4 : Int) < (st.n : Int) := by omega
        have hll : ((st.L.filter fun y => !(y.h == zh)).length : Int) ≤ 1000 := by have := HLL.out; omega
        refine start_ (n := 20) (S := fun w' => w'.cell? ⟨B, 0, none⟩ = some (.slice (some ⟨A, 0, none⟩) st.n cap) ∧ w'.cell? ⟨B, 1, none⟩ = some (.map (some bm)) ∧ w'.ownsMap Try.prog 3 (plainElem Try.prog 9) bm st.q (D.del (.int .i64 zh))) (ds := []) #[false, false, false, false, false, false, false, false, false, false, false, false, false, false, false, false, false, false, false, false] (by kernel_rfl) rfl rfl ⟨c05, c15, hown5⟩ (fun hHeld => ?_)
        refine pure_ (i := 0) (N := (some 80)) (v := ?_) (a' := ?_) #[true, false, false, false, false, false, false, false, false, false, false, false, false, false, false, false, false, false, false, false] rfl rfl (by kernel_rfl) (fun _ _ _ h => h) (Or.inl ⟨by rfl, ?_⟩) ?_ ?_
        rotate_left
        · intro w'
          go_simp
          with_reducible rfl
        rotate_left
        · simp only [Act.put, List.setIfInBounds_toArray, List.set_cons_zero, List.set_cons_succ, i64_w, i32_w]
          rfl
        refine pure_ (i := 1) (N := (some 81)) (v := ?_) (a' := ?_) #[true, true, false, false, false, false, false, false, false, false, false, false, false, false, false, false, false, false, false, false] rfl rfl (by kernel_rfl) (fun _ _ _ h => h) (Or.inl ⟨by rfl, ?_⟩) ?_ ?_
        rotate_left
        · intro w'
          go_simp
          with_reducible rfl
        rotate_left
        · simp only [Act.put, List.setIfInBounds_toArray, List.set_cons_zero, List.set_cons_succ, i64_w, i32_w]
          rfl
        refine pure_ (i := 2) (N := (some 82)) (v := ?_) (a' := ?_) #[true, true, true, false, false, false, false, false, false, false, false, false, false, false, false, false, false, false, false, false] rfl rfl (by kernel_rfl) (fun _ _ _ h => h) (Or.inl ⟨by rfl, ?_⟩) ?_ ?_
        rotate_left
        · intro w'
          go_simp
          with_reducible rfl
        rotate_left
        · simp only [Act.put, List.setIfInBounds_toArray, List.set_cons_zero, List.set_cons_succ, i64_w, i32_w]
          rfl
        refine take_ (i := 3) (N := (some 83)) (v := ?_) (a' := ?_) #[true, true, true, true, false, false, false, false, false, false, false, false, false, false, false, false, false, false, false, false] rfl rfl (by kernel_rfl) (fun _ _ _ h => h) (Or.inl ⟨by rfl, ?_⟩) hHeld ?_ ?_
        rotate_left
        · rintro w' ⟨s0, s1, s2⟩
          go_simp
          with_reducible rfl
        rotate_left
        · simp only [Act.put, List.setIfInBounds_toArray, List.set_cons_zero, List.set_cons_succ, i64_w, i32_w]
          rfl
        refine pure_ (i := 4) (N := (some 84)) (v := ?_) (a' := ?_) #[true, true, true, true, true, false, false, false, false, false, false, false, false, false, false, false, false, false, false, false] rfl rfl (by kernel_rfl) (fun _ _ _ h => h) (Or.inl ⟨by rfl, ?_⟩) ?_ ?_
        rotate_left
        · intro w'
          go_simp
          with_reducible rfl
        rotate_left
        · simp only [Act.put, List.setIfInBounds_toArray, List.set_cons_zero, List.set_cons_succ, i64_w, i32_w]
          rfl
        refine pure_ (i := 5) (N := (some 85)) (v := ?_) (a' := ?_) #[true, true, true, true, true, true, false, false, false, false, false, false, false, false, false, false, false, false, false, false] rfl rfl (by kernel_rfl) (fun _ _ _ h => h) (Or.inl ⟨by rfl, ?_⟩) ?_ ?_
        rotate_left
        · intro w'
          go_simp
          with_reducible rfl
        rotate_left
        · simp only [Act.put, List.setIfInBounds_toArray, List.set_cons_zero, List.set_cons_succ, i64_w, i32_w]
          rfl
        refine pure_ (i := 6) (N := (some 86)) (v := ?_) (a' := ?_) #[true, true, true, true, true, true, true, false, false, false, false, false, false, false, false, false, false, false, false, false] rfl rfl (by kernel_rfl) (fun _ _ _ h => h) (Or.inl ⟨by rfl, ?_⟩) ?_ ?_
        rotate_left
        · intro w'
          go_simp
          with_reducible rfl
        rotate_left
        · simp only [Act.put, List.setIfInBounds_toArray, List.set_cons_zero, List.set_cons_succ, i64_w, i32_w]
          rfl
        refine pure_ (i := 7) (N := (some 87)) (v := ?_) (a' := ?_) #[true, true, true, true, true, true, true, true, false, false, false, false, false, false, false, false, false, false, false, false] rfl rfl (by kernel_rfl) (fun _ _ _ h => h) (Or.inl ⟨by rfl, ?_⟩) ?_ ?_
        rotate_left
        · intro w'
          go_simp
          with_reducible rfl
        rotate_left
        · simp only [Act.put, List.setIfInBounds_toArray, List.set_cons_zero, List.set_cons_succ, i64_w, i32_w]
          rfl
        refine pure_ (i := 8) (N := (some 88)) (v := ?_) (a' := ?_) #[true, true, true, true, true, true, true, true, true, false, false, false, false, false, false, false, false, false, false, false] rfl rfl (by kernel_rfl) (fun _ _ _ h => h) (Or.inl ⟨by rfl, ?_⟩) ?_ ?_
        rotate_left
        · intro w'
          go_simp
          with_reducible rfl
        rotate_left
        · simp only [Act.put, List.setIfInBounds_toArray, List.set_cons_zero, List.set_cons_succ, i64_w, i32_w]
          rfl
        refine pure_ (i := 9) (N := (some 89)) (v := ?_) (a' := ?_) #[true, true, true, true, true, true, true, true, true, true, false, false, false, false, false, false, false, false, false, false] rfl rfl (by kernel_rfl) (fun _ _ _ h => h) (Or.inl ⟨by rfl, ?_⟩) ?_ ?_
        rotate_left
        · intro w'
          go_simp
          with_reducible rfl
        rotate_left
        · simp only [Act.put, List.setIfInBounds_toArray, List.set_cons_zero, List.set_cons_succ, i64_w, i32_w]
          rfl
        refine take_ (i := 10) (N := (some 90)) (v := ?_) (a' := ?_) #[true, true, true, true, true, true, true, true, true, true, true, false, false, false, false, false, false, false, false, false] rfl rfl (by kernel_rfl) (fun _ _ _ h => h) (Or.inl ⟨by rfl, ?_⟩) hHeld ?_ ?_
        rotate_left
        · rintro w' ⟨s0, s1, s2⟩
          go_simp
          with_reducible rfl
        rotate_left
        · simp only [Act.put, List.setIfInBounds_toArray, List.set_cons_zero, List.set_cons_succ, i64_w, i32_w]
          rfl
        refine take_ (i := 11) (N := (some 91)) (v := .int .i64 ((st.L.filter fun y => !(y.h == zh)).length : Int)) (a' := ?_) #[true, true, true, true, true, true, true, true, true, true, true, true, false, false, false, false, false, false, false, false] rfl rfl (by kernel_rfl) (fun _ _ _ h => h) (Or.inl ⟨by rfl, ?_⟩) hHeld ?_ ?_
        · rintro w' ⟨s0, s1, s2⟩
          have hl := s2.len Try.underlying59 3
          rw [hsz5] at hl
          simp [execOp, resolve, invoke, builtin, Act.eval, hl, Result.andThen]
        rotate_left
        · simp only [Act.put, List.setIfInBounds_toArray, List.set_cons_zero, List.set_cons_succ, i64_w, i32_w]
          rfl
        refine pure_ (i := 12) (N := (some 92)) (v := ?_) (a' := ?_) #[true, true, true, true, true, true, true, true, true, true, true, true, true, false, false, false, false, false, false, false] rfl rfl (by kernel_rfl) (fun _ _ _ h => h) (Or.inl ⟨by rfl, ?_⟩) ?_ ?_
        rotate_left
        · intro w'
          go_simp
          with_reducible rfl
        rotate_left
        · simp only [Act.put, List.setIfInBounds_toArray, List.set_cons_zero, List.set_cons_succ, i64_w, i32_w]
          rfl
        refine pure_ (i := 13) (N := (some 93)) (v := ?_) (a' := ?_) #[true, true, true, true, true, true, true, true, true, true, true, true, true, true, false, false, false, false, false, false] rfl rfl (by kernel_rfl) (fun _ _ _ h => h) (Or.inl ⟨by rfl, ?_⟩) ?_ ?_
        rotate_left
        · intro w'
          go_simp
          with_reducible rfl
        rotate_left
        · simp only [Act.put, List.setIfInBounds_toArray, List.set_cons_zero, List.set_cons_succ, i64_w, i32_w]
          rfl
        refine pure_ (i := 14) (N := (some 94)) (v := ?_) (a' := ?_) #[true, true, true, true, true, true, true, true, true, true, true, true, true, true, true, false, false, false, false, false] rfl rfl (by kernel_rfl) (fun _ _ _ h => h) (Or.inl ⟨by rfl, ?_⟩) ?_ ?_
        rotate_left
        · intro w'
          go_simp
          with_reducible rfl
        rotate_left
        · simp only [Act.put, List.setIfInBounds_toArray, List.set_cons_zero, List.set_cons_succ, i64_w, i32_w]
          rfl
        refine pure_ (i := 15) (N := (some 95)) (v := ?_) (a' := ?_) #[true, true, true, true, true, true, true, true, true, true, true, true, true, true, true, true, false, false, false, false] rfl rfl (by kernel_rfl) (fun _ _ _ h => h) (Or.inl ⟨by rfl, ?_⟩) ?_ ?_
        rotate_left
        · intro w'
          go_simp
          with_reducible rfl
        rotate_left
        · simp only [Act.put, List.setIfInBounds_toArray, List.set_cons_zero, List.set_cons_succ, i64_w, i32_w]
          rfl
        refine take_ (i := 16) (N := (some 96)) (v := ?_) (a' := ?_) #[true, true, true, true, true, true, true, true, true, true, true, true, true, true, true, true, true, false, false, false] rfl rfl (by kernel_rfl) (fun _ _ _ h => h) (Or.inl ⟨by rfl, ?_⟩) hHeld ?_ ?_
        rotate_left
        · rintro w' ⟨s0, s1, s2⟩
          go_simp
          with_reducible rfl
        rotate_left
        · simp only [Act.put, List.setIfInBounds_toArray, List.set_cons_zero, List.set_cons_succ, i64_w, i32_w]
          rfl
        refine pure_ (i := 17) (N := (some 97)) (v := ?_) (a' := ?_) #[true, true, true, true, true, true, true, true, true, true, true, true, true, true, true, true, true, true, false, false] rfl rfl (by kernel_rfl) (fun _ _ _ h => h) (Or.inl ⟨by rfl, ?_⟩) ?_ ?_
        rotate_left
        · intro w'
          go_simp
          with_reducible rfl
        rotate_left
        · simp only [Act.put, List.setIfInBounds_toArray, List.set_cons_zero, List.set_cons_succ, i64_w, i32_w]
          rfl
        refine pure_ (i := 18) (N := (some 98)) (v := ?_) (a' := ?_) #[true, true, true, true, true, true, true, true, true, true, true, true, true, true, true, true, true, true, true, false] rfl rfl (by kernel_rfl) (fun _ _ _ h => h) (Or.inl ⟨by rfl, ?_⟩) ?_ ?_
        rotate_left
        · intro w'
          go_simp
          with_reducible rfl
        rotate_left
        · simp only [Act.put, List.setIfInBounds_toArray, List.set_cons_zero, List.set_cons_succ, i64_w, i32_w]
          rfl
        refine pure_ (i := 19) (N := (some 99)) (v := ?_) (a' := ?_) #[true, true, true, true, true, true, true, true, true, true, true, true, true, true, true, true, true, true, true, true] rfl rfl (by kernel_rfl) (fun _ _ _ h => h) (Or.inl ⟨by rfl, ?_⟩) ?_ ?_
        rotate_left
        · intro w'
          go_simp
          with_reducible rfl
        rotate_left
        · simp only [Act.put, List.setIfInBounds_toArray, List.set_cons_zero, List.set_cons_succ, i64_w, i32_w]
          rfl
        refine done_ (by kernel_rfl) ?_
        have H5 : Aside0 (TabW w5.drew _ B A bm _ cap _ _) := ⟨H5.out.below ((Below.refl _ _).drew)⟩
        have ON5 := Aside0.mk ON5.out.drew
        by_cases h5 : 4 * (st.L.filter fun y => !(y.h == zh)).length < st.n
        · have h5a : wrap64 (4 * ((st.L.filter fun y => !(y.h == zh)).length : Int)) < (st.n : Int) := by have := HLL.out; unfold wrap64; omega
          have HR := Aside0.mk (hR ⟨h4, h5⟩)
          clear hll c15 hown5 hsz5 hHeld
          go_wp2_with (first | (go_at_call 33; rw [show ((st.n : Int) / 2) = ((st.n / 2 : Nat) : Int) by omega]; refine (HR.out _ _ _ _ _ _ _ _ H5.out).mono ?_; rintro e w7 ⟨rfl, HT7, HO7⟩))
          go_ret
          refine ⟨rfl, ⟨OK.out.deled zh, ?_⟩, only_ext ON5.out HO7⟩
          obtain ⟨A', bm', vs', cap', D', h7⟩ := HT7
          have h8 := h7.mono (S' := ext S w w7) (fun k _ hk => ext_ext ON5.out.size HO7.size k hk)
          unfold St.del
          rw [if_pos ⟨h4, h5⟩]
          exact ⟨A', bm', vs', cap', D', h8⟩
        · have h5a : ¬ wrap64 (4 * ((st.L.filter fun y => !(y.h == zh)).length : Int)) < (st.n : Int) := by have := HLL.out; unfold wrap64; omega
          go_wp2
          go_ret
          refine ⟨rfl, ⟨OK.out.deled zh, ?_⟩, ON5.out⟩
          unfold St.del
          rw [if_neg (fun h => h5 h.2)]
          exact ⟨A, bm, _, cap, _, H5.out⟩
      · have h4a : ¬ (4 : Int) < (st.n : Int) := by omega
        refine start_ (n := 20) (S := fun w' => w'.cell? ⟨B, 0, none⟩ = some (.slice (some ⟨A, 0, none⟩) st.n cap) ∧ w'.cell? ⟨B, 1, none⟩ = some (.map (some bm)) ∧ w'.ownsMap Try.prog 3 (plainElem Try.prog 9) bm st.q (D.del (.int .i64 zh))) (ds := []) #[false, false, false, false, false, false, false, false, false, false, false, false, false, false, false, false, false, false, false, false] (by kernel_rfl) rfl rfl ⟨c05, c15, hown5⟩ (fun hHeld => ?_)
        refine pure_ (i := 0) (N := (some 80)) (v := ?_) (a' := ?_) #[true, false, false, false, false, false, false, false, false, false, false, false, false, false, false, false, false, false, false, false] rfl rfl (by kernel_rfl) (fun _ _ _ h => h) (Or.inl ⟨by rfl, ?_⟩) ?_ ?_
        rotate_left
        · intro w'
          go_simp
          with_reducible rfl
        rotate_left
        · simp only [Act.put, List.setIfInBounds_toArray, List.set_cons_zero, List.set_cons_succ, i64_w, i32_w]
          rfl
        refine pure_ (i := 1) (N := (some 81)) (v := ?_) (a' := ?_) #[true, true, false, false, false, false, false, false, false, false, false, false, false, false, false, false, false, false, false, false] rfl rfl (by kernel_rfl) (fun _ _ _ h => h) (Or.inl ⟨by rfl, ?_⟩) ?_ ?_
        rotate_left
        · intro w'
          go_simp
          with_reducible rfl
        rotate_left
        · simp only [Act.put, List.setIfInBounds_toArray, List.set_cons_zero, List.set_cons_succ, i64_w, i32_w]
          rfl
        refine pure_ (i := 2) (N := (some 82)) (v := ?_) (a' := ?_) #[true, true, true, false, false, false, false, false, false, false, false, false, false, false, false, false, false, false, false, false] rfl rfl (by kernel_rfl) (fun _ _ _ h => h) (Or.inl ⟨by rfl, ?_⟩) ?_ ?_
        rotate_left
        · intro w'
          go_simp
          with_reducible rfl
        rotate_left
        · simp only [Act.put, List.setIfInBounds_toArray, List.set_cons_zero, List.set_cons_succ, i64_w, i32_w]
          rfl
        refine take_ (i := 3) (N := (some 83)) (v := ?_) (a' := ?_) #[true, true, true, true, false, false, false, false, false, false, false, false, false, false, false, false, false, false, false, false] rfl rfl (by kernel_rfl) (fun _ _ _ h => h) (Or.inl ⟨by rfl, ?_⟩) hHeld ?_ ?_
        rotate_left
        · rintro w' ⟨s0, s1, s2⟩
          go_simp
          with_reducible rfl
        rotate_left
        · simp only [Act.put, List.setIfInBounds_toArray, List.set_cons_zero, List.set_cons_succ, i64_w, i32_w]
          rfl
        refine pure_ (i := 4) (N := (some 84)) (v := ?_) (a' := ?_) #[true, true, true, true, true, false, false, false, false, false, false, false, false, false, false, false, false, false, false, false] rfl rfl (by kernel_rfl) (fun _ _ _ h => h) (Or.inl ⟨by rfl, ?_⟩) ?_ ?_
        rotate_left
        · intro w'
          go_simp
          with_reducible rfl
        rotate_left
        · simp only [Act.put, List.setIfInBounds_toArray, List.set_cons_zero, List.set_cons_succ, i64_w, i32_w]
          rfl
        refine pure_ (i := 5) (N := (some 85)) (v := ?_) (a' := ?_) #[true, true, true, true, true, true, false, false, false, false, false, false, false, false, false, false, false, false, false, false] rfl rfl (by kernel_rfl) (fun _ _ _ h => h) (Or.inl ⟨by rfl, ?_⟩) ?_ ?_
        rotate_left
        · intro w'
          go_simp
          with_reducible rfl
        rotate_left
        · simp only [Act.put, List.setIfInBounds_toArray, List.set_cons_zero, List.set_cons_succ, i64_w, i32_w]
          rfl
        refine pure_ (i := 6) (N := (some 86)) (v := ?_) (a' := ?_) #[true, true, true, true, true, true, true, false, false, false, false, false, false, false, false, false, false, false, false, false] rfl rfl (by kernel_rfl) (fun _ _ _ h => h) (Or.inl ⟨by rfl, ?_⟩) ?_ ?_
        rotate_left
        · intro w'
          go_simp
          with_reducible rfl
        rotate_left
        · simp only [Act.put, List.setIfInBounds_toArray, List.set_cons_zero, List.set_cons_succ, i64_w, i32_w]
          rfl
        refine pure_ (i := 7) (N := (some 87)) (v := undef) (a' := ?_) #[true, true, true, true, true, true, true, true, false, false, false, false, false, false, false, false, false, false, false, false] rfl rfl (by kernel_rfl) (fun _ _ _ h => h) (Or.inr ⟨by rfl, rfl⟩) ?_ ?_
        rotate_left
        · simp only [Act.put, List.setIfInBounds_toArray, List.set_cons_zero, List.set_cons_succ, i64_w, i32_w]
          rfl
        refine pure_ (i := 8) (N := (some 88)) (v := undef) (a' := ?_) #[true, true, true, true, true, true, true, true, true, false, false, false, false, false, false, false, false, false, false, false] rfl rfl (by kernel_rfl) (fun _ _ _ h => h) (Or.inr ⟨by rfl, rfl⟩) ?_ ?_
        rotate_left
        · simp only [Act.put, List.setIfInBounds_toArray, List.set_cons_zero, List.set_cons_succ, i64_w, i32_w]
          rfl
        refine pure_ (i := 9) (N := (some 89)) (v := undef) (a' := ?_) #[true, true, true, true, true, true, true, true, true, true, false, false, false, false, false, false, false, false, false, false] rfl rfl (by kernel_rfl) (fun _ _ _ h => h) (Or.inr ⟨by rfl, rfl⟩) ?_ ?_
        rotate_left
        · simp only [Act.put, List.setIfInBounds_toArray, List.set_cons_zero, List.set_cons_succ, i64_w, i32_w]
          rfl
        refine pure_ (i := 10) (N := (some 90)) (v := undef) (a' := ?_) #[true, true, true, true, true, true, true, true, true, true, true, false, false, false, false, false, false, false, false, false] rfl rfl (by kernel_rfl) (fun _ _ _ h => h) (Or.inr ⟨by rfl, rfl⟩) ?_ ?_
        rotate_left
        · simp only [Act.put, List.setIfInBounds_toArray, List.set_cons_zero, List.set_cons_succ, i64_w, i32_w]
          rfl
        refine pure_ (i := 11) (N := (some 91)) (v := undef) (a' := ?_) #[true, true, true, true, true, true, true, true, true, true, true, true, false, false, false, false, false, false, false, false] rfl rfl (by kernel_rfl) (fun _ _ _ h => h) (Or.inr ⟨by rfl, rfl⟩) ?_ ?_
        rotate_left
        · simp only [Act.put, List.setIfInBounds_toArray, List.set_cons_zero, List.set_cons_succ, i64_w, i32_w]
          rfl
        refine pure_ (i := 12) (N := (some 92)) (v := undef) (a' := ?_) #[true, true, true, true, true, true, true, true, true, true, true, true, true, false, false, false, false, false, false, false] rfl rfl (by kernel_rfl) (fun _ _ _ h => h) (Or.inr ⟨by rfl, rfl⟩) ?_ ?_
        rotate_left
        · simp only [Act.put, List.setIfInBounds_toArray, List.set_cons_zero, List.set_cons_succ, i64_w, i32_w]
          rfl
        refine pure_ (i := 13) (N := (some 93)) (v := undef) (a' := ?_) #[true, true, true, true, true, true, true, true, true, true, true, true, true, true, false, false, false, false, false, false] rfl rfl (by kernel_rfl) (fun _ _ _ h => h) (Or.inr ⟨by rfl, rfl⟩) ?_ ?_
        rotate_left
        · simp only [Act.put, List.setIfInBounds_toArray, List.set_cons_zero, List.set_cons_succ, i64_w, i32_w]
          rfl
        refine pure_ (i := 14) (N := (some 94)) (v := undef) (a' := ?_) #[true, true, true, true, true, true, true, true, true, true, true, true, true, true, true, false, false, false, false, false] rfl rfl (by kernel_rfl) (fun _ _ _ h => h) (Or.inr ⟨by rfl, rfl⟩) ?_ ?_
        rotate_left
        · simp only [Act.put, List.setIfInBounds_toArray, List.set_cons_zero, List.set_cons_succ, i64_w, i32_w]
          rfl
        refine pure_ (i := 15) (N := (some 95)) (v := undef) (a' := ?_) #[true, true, true, true, true, true, true, true, true, true, true, true, true, true, true, true, false, false, false, false] rfl rfl (by kernel_rfl) (fun _ _ _ h => h) (Or.inr ⟨by rfl, rfl⟩) ?_ ?_
        rotate_left
        · simp only [Act.put, List.setIfInBounds_toArray, List.set_cons_zero, List.set_cons_succ, i64_w, i32_w]
          rfl
        refine pure_ (i := 16) (N := (some 96)) (v := undef) (a' := ?_) #[true, true, true, true, true, true, true, true, true, true, true, true, true, true, true, true, true, false, false, false] rfl rfl (by kernel_rfl) (fun _ _ _ h => h) (Or.inr ⟨by rfl, rfl⟩) ?_ ?_
        rotate_left
        · simp only [Act.put, List.setIfInBounds_toArray, List.set_cons_zero, List.set_cons_succ, i64_w, i32_w]
          rfl
        refine pure_ (i := 17) (N := (some 97)) (v := undef) (a' := ?_) #[true, true, true, true, true, true, true, true, true, true, true, true, true, true, true, true, true, true, false, false] rfl rfl (by kernel_rfl) (fun _ _ _ h => h) (Or.inr ⟨by rfl, rfl⟩) ?_ ?_
        rotate_left
        · simp only [Act.put, List.setIfInBounds_toArray, List.set_cons_zero, List.set_cons_succ, i64_w, i32_w]
          rfl
        refine pure_ (i := 18) (N := (some 98)) (v := undef) (a' := ?_) #[true, true, true, true, true, true, true, true, true, true, true, true, true, true, true, true, true, true, true, false] rfl rfl (by kernel_rfl) (fun _ _ _ h => h) (Or.inr ⟨by rfl, rfl⟩) ?_ ?_
        rotate_left
        · simp only [Act.put, List.setIfInBounds_toArray, List.set_cons_zero, List.set_cons_succ, i64_w, i32_w]
          rfl
        refine pure_ (i := 19) (N := (some 99)) (v := ?_) (a' := ?_) #[true, true, true, true, true, true, true, true, true, true, true, true, true, true, true, true, true, true, true, true] rfl rfl (by kernel_rfl) (fun _ _ _ h => h) (Or.inl ⟨by rfl, ?_⟩) ?_ ?_
        rotate_left
        · intro w'
          go_simp
          with_reducible rfl
        rotate_left
        · simp only [Act.put, List.setIfInBounds_toArray, List.set_cons_zero, List.set_cons_succ, i64_w, i32_w]
          rfl
        refine done_ (by kernel_rfl) ?_
        have H5 : Aside0 (TabW w5.drew _ B A bm _ cap _ _) := ⟨H5.out.below ((Below.refl _ _).drew)⟩
        have ON5 := Aside0.mk ON5.out.drew
        go_wp2
        go_ret
        refine ⟨rfl, ⟨OK.out.deled zh, ?_⟩, ON5.out⟩
        unfold St.del
        rw [if_neg (fun h => h4 h.1)]
        exact ⟨A, bm, _, cap, _, H5.out⟩
    · have hwp : wrap64 ((q : Int) + 1) = ((q + 1 : Nat) : Int) := by have := HCL.out; unfold wrap64; omega
      go_wp2
      rw [hwp]
      exact ⟨⟨q + 1, hlt, rfl, ⟨fun j y hj hy => by
        rcases Nat.lt_succ_iff_lt_or_eq.1 hj with h | rfl
        · exact HJ.out j y h hy
        · rw [HXQ.out] at hy; cases hy; exact hs2⟩, ⟨below_alloc HB.out _⟩⟩, by show (st.chain (bk st.n s)).length - ((q + 1 : Nat) : Int).toNat < (st.chain (bk st.n s)).length - (q : Int).toNat; omega⟩
end Go.Proofs.Ytonjhnglcffihaa.Tab
