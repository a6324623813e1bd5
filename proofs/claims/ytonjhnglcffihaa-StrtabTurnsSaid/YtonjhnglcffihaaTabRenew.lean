/- PROVED: what renew does. Conditions: those each theorem states. -/
import Derived.Test.YtonjhnglcffihaaTabRows
set_option linter.unusedVariables false
set_option linter.unusedSimpArgs false
namespace Go.Proofs.Ytonjhnglcffihaa.Tab
open Go Go.RowKit Go.Shelf Go.Proofs.Ytonjhnglcffihaa.Print Go.Proofs.YtonjhnglcffihaaW.PrintWords Go.Proofs.YtonjhnglcffihaaW.PrintLast Go.Proofs.YtonjhnglcffihaaW.PrintMore
attribute [local go_sem] Oper.semAt_some

theorem all_in (n : Nat) (p : Option Addr) (w : World) :
    CallsIn Fence.wide n Try.prog 37 #[.pointer p] w fun e w' => e = .returned (.func (.func 38) #[] #[.pointer (some ⟨w.heap.size, 0, none⟩)]) ∧ w' = w.alloc (.cells #[.pointer p] 23) := by
  refine callsIn_of_wp Try.func37 rfl trivial ?_ rfl
  simp only [Try.ntmps37, List.size_toArray, List.length_cons, List.length_nil, Nat.reduceAdd, Nat.reduceSub, Array.replicate_succ, Array.replicate_zero, List.push_toArray, List.append_toArray, List.nil_append, List.cons_append]
  gi_wp2
  go_ret
  exact ⟨rfl, rfl⟩
theorem all_stops (n : Nat) (hn : 1 ≤ n) (Bt n₀ : Nat) {w : World} {S : Nat → Prop} {B A bm cap : Nat} {vs : Nat → Value} {D : DataW Unit} {st : St} (hT : TabW w S B A bm vs cap D st) (hn5 : st.n ≤ 1048576) (hl0 : ∀ x ∈ st.L, x.s.size ≤ maxLen) (hlen : st.L.length ≤ 1000)
    (hA : A < n₀) (hv : ∀ i, i < st.n → ∀ g, (vs i).ownBlock = some g → g < n₀) (hBt : w.cell? ⟨Bt, 0, none⟩ = some (.pointer (some ⟨B, 0, none⟩))) (hb : Bt < w.heap.size) (hn0 : n₀ ≤ w.heap.size) :
    SeqStopsK Fence.wide n Try.prog 38 #[.pointer (some ⟨Bt, 0, none⟩)] (fun x : En => #[encE (norm x)]) (Below n₀) (fun ys => ys = allE st st.n) (fun _ => True) (allE st st.n).length w := fun l J Jx W hW hJ _ hY h0 =>
  all1_in n hn l Bt n₀ (hT.below hW) hn5 hl0 hlen hA hv ((hW.cell (p := ⟨Bt, 0, none⟩) hb).trans hBt) J Jx (fun pre W1 o h => hJ pre W1 _ none h (World.grownBy_alloc _ _ _) (fun r e => by cases e)) hY h0 (Nat.le_trans hn0 hW.size)
theorem map_norm {L : List En} (h : ∀ x ∈ L, x.s.size ≤ maxLen) : L.map norm = L := by
  have : L.map norm = L.map id := List.map_congr_left (fun x hx => norm_id (h x hx))
  rw [this, List.map_id]
theorem sorted_eq : ∀ (l1 l2 : List En), l1.Perm l2 → (l1.Pairwise fun a b => a.q ≤ b.q) → (l2.Pairwise fun a b => a.q < b.q) → l1 = l2
  | l1, [], hp, _, _ => List.Perm.eq_nil hp
  | [], y :: l2, hp, _, _ => absurd hp.length_eq (by simp)
  | x :: l1, y :: l2, hp, h1, h2 => by
    have c1 := List.pairwise_cons.1 h1
    have c2 := List.pairwise_cons.1 h2
    have hx : x ∈ y :: l2 := hp.mem_iff.1 (by simp)
    have hy : y ∈ x :: l1 := hp.mem_iff.2 (by simp)
    have e : x = y := by
      rcases List.mem_cons.1 hx with e | hx
      · exact e
      · rcases List.mem_cons.1 hy with e | hy
        · exact e.symm
        · have a := c2.1 x hx
          have b := c1.1 y hy
          omega
    subst e
    rw [sorted_eq l1 l2 (List.Perm.cons_inv hp) c1.2 c2.2]
theorem grown_set {w w' : World} {g : Nat} (h : w.grownBy w' (some g)) (i : Nat) (v : Value) : w.grownBy (w'.setCell ⟨g, i, none⟩ v) (some g) :=
  ⟨h.os, h.tape, h.output, by simpa [World.setCell] using h.size, fun k hk hne => (Below.heap_setCell _ _ _ _ (fun e => hne (by rw [e]))).trans (h.block k hk hne)⟩
theorem row_frozen {w : World} {base e size n cap g : Nat} {xs : List Value} (h : w.ownsRow base e size (.slice (some ⟨g, 0, none⟩) n cap) n xs) : ∀ i, w.frozen? ⟨g, i, none⟩ = false := by
  rcases h.2 with ⟨e0, _⟩ | ⟨g', cap', cur, e0, _, h4, _⟩
  · simp at e0
  · simp only [Value.slice.injEq, Option.some.injEq, Addr.mk.injEq] at e0
    intro i
    rw [← e0.1.1] at h4
    simp [World.frozen?, h4]
theorem ownsRow_zero {w : World} {base e size n : Nat} {v : Value} {xs : List Value} (h : w.ownsRow base e size v n xs) : w.ownsRow 0 e size v n xs :=
  ⟨h.1, h.2.imp id (fun ⟨g, cap, cur, e1, _, r⟩ => ⟨g, cap, cur, e1, Nat.zero_le _, r⟩)⟩
theorem perm_spread (x : En) (g : Nat → List En) (i0 : Nat) : ∀ n, i0 < n → ((List.range n).flatMap fun i => if i = i0 then x :: g i else g i).Perm (x :: (List.range n).flatMap g)
  | 0, h => absurd h (by omega)
  | n + 1, h => by
    rw [List.range_succ, List.flatMap_append, List.flatMap_append]
    simp only [List.flatMap_cons, List.flatMap_nil, List.append_nil]
    by_cases e : i0 = n
    · subst e
      rw [if_pos rfl]
      have : ((List.range i0).flatMap fun i => if i = i0 then x :: g i else g i) = (List.range i0).flatMap g := by
        rw [List.flatMap_def, List.flatMap_def]
        congr 1
        refine List.map_congr_left (fun a ha => ?_)
        have := List.mem_range.1 ha
        rw [if_neg (by omega)]
      rw [this]
      exact List.perm_middle
    · rw [if_neg (fun e' => e e'.symm)]
      exact (perm_spread x g i0 n (by omega)).append_right _
theorem allE_perm {st : St} (hn : 0 < st.n) (hn5 : st.n ≤ 1048576) : (allE st st.n).Perm st.L := by
  unfold allE St.chain
  generalize st.L = L
  induction L with
  | nil => simp
  | cons x L ih =>
    refine List.Perm.trans ?_ (ih.cons x)
    refine List.Perm.trans (List.Perm.of_eq ?_) (perm_spread x (fun i => L.filter fun x => bk st.n x.s == i) (bk st.n x.s) st.n (bk_lt _ _ hn hn5))
    congr 1
    funext i
    by_cases e : i = bk st.n x.s
    · rw [if_pos e, List.filter_cons_of_pos (by simp [e])]
    · rw [if_neg e, List.filter_cons_of_neg (by simp; exact fun e' => e e'.symm)]
theorem allE_length {w : World} {S : Nat → Prop} {B A bm cap : Nat} {vs : Nat → Value} {D : DataW Unit} {st : St} (hT : TabW w S B A bm vs cap D st) (hn5 : st.n ≤ 1048576) : (allE st st.n).length ≤ st.L.length := by
  rcases Nat.eq_zero_or_pos st.n with h | h
  · rw [h]; simp [allE]
  · exact Nat.le_of_eq (allE_perm h hn5).length_eq
theorem TabW.renewed {w W W' : World} {S : Nat → Prop} {B A bm cap m : Nat} {vs vs' : Nat → Value} {D : DataW Unit} {st : St} {fch : Nat → List En} (hT : TabW w S B A bm vs cap D st) (hn0 : 0 < st.n) (hn5 : st.n ≤ 1048576) (hm1 : m ≤ 1048576) (hup : st.L.Pairwise fun a b => a.q < b.q)
    (hB : Below w.heap.size w W) (hR : RowsW w.heap.size (w.heap.size + 1) m W (allE st st.n) vs' fch)
    (htb : W'.heap[B]? = some (.cells #[.slice (some ⟨w.heap.size + 1, 0, none⟩) m m, .map (some bm), .int .i64 (st.q : Int)] 61 (0, 0)))
    (hk : ∀ k, k ≠ B → ((∃ cs t, W.heap[k]? = some (Obj.cells cs t (0, 0))) ∨ k < w.heap.size) → W'.heap[k]? = W.heap[k]?) (hsz : W.heap.size ≤ W'.heap.size) (e1 : W'.os = W.os) (e2 : W'.tape = W.tape) (e3 : W'.output = W.output) :
    TabW W' (ext S w W') B (w.heap.size + 1) bm vs' m D ⟨st.L, m, st.q⟩ ∧ Only S w W' := by
  obtain ⟨nAB, nmB, nmA, hoff⟩ := hT.off
  obtain ⟨lB, lA, lm, lr⟩ := hT.lts
  obtain ⟨sB, sA, sm, sr⟩ := hT.inS
  have z := hB.size
  have hch : ∀ i, i < m → (St.mk st.L m st.q).chain i = fch i := fun i hi => by
    refine (sorted_eq _ _ ((hR.perm i hi).trans ((allE_perm hn0 hn5).filter _)) (hR.up i hi) ?_).symm
    exact List.Pairwise.filter _ hup
  have lt : ∀ i, i < m → ∀ k, (vs' i).ownBlock = some k → w.heap.size ≤ k ∧ k < W.heap.size := fun i hi k hk => (hR.row i hi).lt k hk
  have rB : ∀ k, w.heap.size ≤ k → k ≠ B := fun k hk e => by omega
  refine ⟨⟨htb, ?_, ?_, hT.mo, fun i hi => ?_, hR.apart, ⟨Or.inl sB, Or.inr ⟨by omega, Nat.lt_of_lt_of_le hR.ch.lt hsz⟩, Or.inl sm, fun i hi k hk2 => Or.inr ⟨(lt i hi k hk2).1, Nat.lt_of_lt_of_le (lt i hi k hk2).2 hsz⟩⟩, ⟨Nat.le_refl _, by unfold maxLen; omega⟩⟩, ⟨e1.trans hB.os, e2.trans hB.tape, e3.trans hB.output, Nat.le_trans z hsz, fun k hk1 hs => ?_⟩⟩
  · obtain ⟨c, hc, r⟩ := hR.ch
    exact ⟨c, (hk _ (rB _ (by omega)) (Or.inl ⟨_, _, hc⟩)).trans hc, r⟩
  · obtain ⟨es, clock, e, r⟩ := hT.map
    exact ⟨es, clock, (hk bm nmB (Or.inr lm)).trans ((hB.block bm lm).trans e), r⟩
  · rw [hch i hi]
    have hr := ownsRow_zero (hR.row i hi)
    refine ⟨hr.1, ?_⟩
    rcases hr.2 with h2 | ⟨g, cap', cur, e, h3, h4, h5⟩
    · exact .inl h2
    · exact .inr ⟨g, cap', cur, e, h3, (hk g (rB g (lt i hi g (by rw [e]; rfl)).1) (Or.inl ⟨_, _, h4⟩)).trans h4, h5⟩
  · exact (hk k (fun e => hs (e ▸ sB)) (Or.inr hk1)).trans (hB.block k hk1)
theorem ownsRow_drew {w : World} {base e size n : Nat} {v : Value} {xs : List Value} (h : w.ownsRow base e size v n xs) : w.drew.ownsRow base e size v n xs := h
theorem grown_drew {w w' : World} {row : Option Nat} (h : w.grownBy w' row) : w.grownBy w'.drew row := ⟨h.os, h.tape, h.output, h.size, h.block⟩
set_option maxRecDepth 100000 in
set_option maxHeartbeats 40000000 in
theorem renew_in (m : Nat) (hm0 : 0 < m) (hm1 : m ≤ 1048576) {w : World} {S : Nat → Prop} {B A bm cap : Nat} {vs : Nat → Value} {D : DataW Unit} {st : St} (hT : TabW w S B A bm vs cap D st) (hn5 : st.n ≤ 1048576) (hl0 : ∀ x ∈ st.L, x.s.size ≤ maxLen) (hlen : st.L.length ≤ 1000) (hn0 : 0 < st.n) (hup : st.L.Pairwise fun a b => a.q < b.q) :
    CallsIn Fence.wide 8 Try.prog 33 #[.pointer (some ⟨B, 0, none⟩), .int .i64 ((m : Nat) : Int)] w fun e w' => e = .returned (.tuple #[]) ∧ (∃ A' bm' vs' cap' D', TabW w' (ext S w w') B A' bm' vs' cap' D' ⟨st.L, m, st.q⟩) ∧ Only S w w' := by
  have hmk := run_make_row' (P := Try.prog) 58 63 (.slice none 0 0) 24 Try.underlying58 info63 rfl .i64 .i64 m (by omega) (by omega)
  refine callsIn_of_wp_marks Try.func33 rfl trivial ?_ rfl
  simp only [Try.ntmps33, List.size_toArray, List.length_cons, List.length_nil, Nat.reduceAdd, Nat.reduceSub, Array.replicate_succ, Array.replicate_zero, List.push_toArray, List.append_toArray, List.nil_append, List.cons_append]
  gi_wp2_with (refine ⟨trivial, ?_⟩; gi_at_call 37; refine (all_in _ _ _).mono ?_; rintro e w' ⟨rfl, rfl⟩)
  have bN := (((Boxed.new w 3 (.int .i64 (m : Int))).alloc (.cells (madeCells #[Value.slice none 0 0] m) 63)).alloc (.cells #[.slice (some ⟨w.heap.size + 1, 0, none⟩) m m] 58)).alloc (.cells #[.pointer (some ⟨B, 0, none⟩)] 23)
  have bS := (Boxed.new ((w.alloc (.cells #[.int .i64 (m : Int)] 3)).alloc (.cells (madeCells #[Value.slice none 0 0] m) 63)) 58 (.slice (some ⟨w.heap.size + 1, 0, none⟩) m m)).alloc (.cells #[.pointer (some ⟨B, 0, none⟩)] 23)
  have bT := Boxed.new (((w.alloc (.cells #[.int .i64 (m : Int)] 3)).alloc (.cells (madeCells #[Value.slice none 0 0] m) 63)).alloc (.cells #[.slice (some ⟨w.heap.size + 1, 0, none⟩) m m] 58)) 23 (.pointer (some ⟨B, 0, none⟩))
  have rF := ((World.rowIs_made (w.alloc (.cells #[.int .i64 (m : Int)] 3)) (.slice none 0 0) m 63).alloc (.cells #[.slice (some ⟨w.heap.size + 1, 0, none⟩) m m] 58)).alloc (.cells #[.pointer (some ⟨B, 0, none⟩)] 23)
  simp only [World.size_alloc] at bS bT rF
  have hB0 : Below w.heap.size w ((((w.alloc (.cells #[.int .i64 (m : Int)] 3)).alloc (.cells (madeCells #[Value.slice none 0 0] m) 63)).alloc (.cells #[.slice (some ⟨w.heap.size + 1, 0, none⟩) m m] 58)).alloc (.cells #[.pointer (some ⟨B, 0, none⟩)] 23)) := below_alloc (below_alloc (below_alloc (below_alloc (Below.refl _ _) _) _) _) _
  have hsz : ((((w.alloc (.cells #[.int .i64 (m : Int)] 3)).alloc (.cells (madeCells #[Value.slice none 0 0] m) 63)).alloc (.cells #[.slice (some ⟨w.heap.size + 1, 0, none⟩) m m] 58)).alloc (.cells #[.pointer (some ⟨B, 0, none⟩)] 23)).heap.size = w.heap.size + 4 := by simp
  obtain ⟨W0, hW0⟩ : ∃ W0, (((w.alloc (.cells #[.int .i64 (m : Int)] 3)).alloc (.cells (madeCells #[Value.slice none 0 0] m) 63)).alloc (.cells #[.slice (some ⟨w.heap.size + 1, 0, none⟩) m m] 58)).alloc (.cells #[.pointer (some ⟨B, 0, none⟩)] 23) = W0 := ⟨_, rfl⟩
  rw [hW0] at bN bS bT rF hB0 hsz ⊢
  clear hW0
  obtain ⟨lB, lA, lm, lr⟩ := hT.lts
  refine wpIn_rangeFunc_ownH (F := Fence.wide) (n := 8) rfl (by decide) (gf := 38) (lb := #[.pointer (some ⟨w.heap.size + 1 + 1 + 1, 0, none⟩)]) rfl trivial (enters_of Try.func38 (by kernel_rfl) rfl)
    (all_stops 7 (by decide) (w.heap.size + 1 + 1 + 1) w.heap.size (hT.below hB0) hn5 hl0 hlen lA lr bT.cell (by omega) (by omega)) belowK_t (belowK_b (by omega)) (Below.refl _ _) (fun _ => rfl)
    (fun pre W => ((Boxed W w.heap.size 3 (.int .i64 (m : Int)) ∧ Boxed W (w.heap.size + 1 + 1) 58 (.slice (some ⟨w.heap.size + 1, 0, none⟩) m m)) ∧ Rows w.heap.size (w.heap.size + 1) m W (pre.map norm)) ∧ Below w.heap.size w W)
    (fun _ _ _ => False)
    (OwnFrom.and (OwnFrom.and (OwnFrom.and (Own.from (boxed_own _ _ _) _) (Own.from (boxed_own _ _ _) _)) (rows_own (fun pre => pre.map norm))) (ownFrom_below (Nat.le_refl _) (by omega)))
    (fun _ _ _ _ _ hs _ _ => hs)
    ⟨⟨⟨bN, bS⟩, ⟨fun _ => .slice none 0 0, fun _ => [], ⟨rF, fun i hi => World.ownsRow_nil _ _ _ _, fun i hi => List.Pairwise.nil, fun i hi => List.Perm.refl _, fun i j _ _ _ g hg => by simp [Value.ownBlock] at hg⟩⟩⟩, hB0⟩
    (fun x a' W => ∃ Bx, W.heap[Bx]? = some (.cells #[.string (norm x).s, .int .i64 (norm x).h, .int .i64 (norm x).q] 65 (0, 0)) ∧ a' = { tmps := #[.pointer (some ⟨B, 0, none⟩), .int .i64 (m : Int), undef, .pointer (some ⟨w.heap.size, 0, none⟩), .pointer (some ⟨w.heap.size + 1 + 1, 0, none⟩), .pointer (some ⟨Bx, 0, none⟩), undef, undef, undef, .int .i64 (m : Int), .slice (some ⟨w.heap.size + 1, 0, none⟩) m m, .pointer (some ⟨B, 0, none⟩), .func (.func 38) #[] #[.pointer (some ⟨w.heap.size + 1 + 1 + 1, 0, none⟩)], encE (norm x), undef, undef, undef, undef, undef, undef, undef, undef, undef, undef, undef, undef, undef, undef, undef, undef, undef, undef, undef, undef, undef, undef, undef, undef, undef, undef, undef, undef, undef, undef, undef, undef, undef, undef, undef, undef, undef, undef, undef, undef, undef, undef, undef, undef, undef, undef, undef, undef, undef, undef, undef, undef, undef, undef, undef, undef], defers := [] })
    (fun x a' _ X Y row hs hg hr => by
      obtain ⟨Bx, h1, h3⟩ := hs
      exact ⟨Bx, (hg.block Bx (Array.getElem?_eq_some_iff.1 h1).1 (fun e => by obtain ⟨_, o, ho, hc⟩ := hr Bx e.symm; rw [h1] at ho; cases ho; cases hc)).trans h1, h3⟩)
    ?assign ?body ?done ?stop
  case assign =>
    rintro l pre x W K ⟨⟨⟨bN1, bS1⟩, hR1⟩, hB1⟩ hK
    unfold encE at hK ⊢
    generalize norm x = y at hK ⊢
    obtain ⟨ys, yh, yq⟩ := y
    gi_wp2
    exact hK _ _ ((KeepsOthers.alloc _ _).from _) ((Below.refl _ W).alloc hB1.size _) ⟨⟨⟨bN1.alloc _, bS1.alloc _⟩, hR1.alloc _⟩, hB1.alloc hB1.size _⟩ ⟨W.heap.size, World.alloc_heap_new W _, rfl⟩
  case body =>
    rintro l pre x a' W hl ⟨r, hr⟩ ⟨⟨⟨bN1, bS1⟩, hR1⟩, hB1⟩ ⟨Bx, bX, rfl⟩ hlt
    have hys := norm_len x
    have hpl : (pre.map norm).length < 1001 := by rw [List.length_map]; have := allE_length hT hn5; omega
    obtain ⟨⟨ys, yh, yq⟩, hy⟩ : ∃ y, norm x = y := ⟨_, rfl⟩
    have HY := Aside0.mk hy
    rw [hy] at bX hys
    clear hy
    dsimp only at bX hys
    generalize encE (norm x) = ex
    obtain ⟨vs1, fch, hRW⟩ := hR1
    have cN := bN1.cell
    have cS := bS1.cell
    have x0 : W.cell? ⟨Bx, 0, none⟩ = some (.string ys) := by simp [World.cell?, bX]
    have x1 : W.cell? ⟨Bx, 1, none⟩ = some (.int .i64 yh) := by simp [World.cell?, bX]
    have x2 : W.cell? ⟨Bx, 2, none⟩ = some (.int .i64 yq) := by simp [World.cell?, bX]
    have hbl := bk_lt m ys hm0 hm1
    have hbs := Aside0.mk (bucket_some ys m hys hm0 hm1)
    have BX := Aside0.mk bX
    have HR := Aside0.mk hRW
    clear bX hRW
    gi_wp2_with (refine ⟨trivial, ?_⟩; gi_at_call 32; refine (CallsIn.inRound l (callsIn_wide.2 (strtab_bucket.calls _ _ _ _ _ hbs.out))).mono ?_; rintro e w1 ⟨rfl, hd⟩; obtain ⟨n2, hd2⟩ := hd.out; subst hd2)
    have HK1 : Aside0 (∀ k, k < W.heap.size → (W.drewN n2).heap[k]? = W.heap[k]?) := ⟨fun k hk => (grown_drewN W n2 none).block k hk (by simp)⟩
    have HZ1 : Aside0 (W.heap.size ≤ (W.drewN n2).heap.size) := ⟨(grown_drewN W n2 none).size⟩
    clear hd cN
    generalize hw1 : W.drewN n2 = w1 at HK1 HZ1 ⊢
    have HB1 : Aside0 (Below w.heap.size W w1) := ⟨by rw [← hw1]; exact pw_below_drewN (Below.refl _ _) _⟩
    have HF1 : Aside0 (KeepsOthers W w1) := ⟨by rw [← hw1]; exact KeepsOthers.of_grownBy (grown_drewN W n2 none) (fun j o e _ => by cases e)⟩
    clear hw1
    have cS1 := (World.cell?_of_block (a := ⟨w.heap.size + 1 + 1, 0, none⟩) (HK1.out _ bS1.lt)).trans cS
    have hcell1 := (World.cell?_of_block (a := ⟨w.heap.size + 1, bk m ys, none⟩) (HK1.out _ HR.out.ch.lt)).trans (HR.out.ch.cell hbl)
    have x01 := (World.cell?_of_block (a := ⟨Bx, 0, none⟩) (HK1.out _ (Array.getElem?_eq_some_iff.1 BX.out).1)).trans x0
    have x11 := (World.cell?_of_block (a := ⟨Bx, 1, none⟩) (HK1.out _ (Array.getElem?_eq_some_iff.1 BX.out).1)).trans x1
    have x21 := (World.cell?_of_block (a := ⟨Bx, 2, none⟩) (HK1.out _ (Array.getElem?_eq_some_iff.1 BX.out).1)).trans x2
    have cSa : ∀ o, (w1.drew.alloc o).cell? ⟨w.heap.size + 1 + 1, 0, none⟩ = some (.slice (some ⟨w.heap.size + 1, 0, none⟩) m m) := fun o => (World.cell?_of_block (a := ⟨w.heap.size + 1 + 1, 0, none⟩) (Below.heap_alloc w1.drew o _ (World.block_lt_of_cell? w1 _ cS1))).trans cS1
    have hcella : ∀ o, (w1.drew.alloc o).cell? ⟨w.heap.size + 1, bk m ys, none⟩ = some (vs1 (bk m ys)) := fun o => (World.cell?_of_block (a := ⟨w.heap.size + 1, bk m ys, none⟩) (Below.heap_alloc w1.drew o _ (World.block_lt_of_cell? w1 _ hcell1))).trans hcell1
    have x0a : ∀ o, (w1.drew.alloc o).cell? ⟨Bx, 0, none⟩ = some (.string ys) := fun o => (World.cell?_of_block (a := ⟨Bx, 0, none⟩) (Below.heap_alloc w1.drew o _ (World.block_lt_of_cell? w1 _ x01))).trans x01
    have x1a : ∀ o, (w1.drew.alloc o).cell? ⟨Bx, 1, none⟩ = some (.int .i64 yh) := fun o => (World.cell?_of_block (a := ⟨Bx, 1, none⟩) (Below.heap_alloc w1.drew o _ (World.block_lt_of_cell? w1 _ x11))).trans x11
    have x2a : ∀ o, (w1.drew.alloc o).cell? ⟨Bx, 2, none⟩ = some (.int .i64 yq) := fun o => (World.cell?_of_block (a := ⟨Bx, 2, none⟩) (Below.heap_alloc w1.drew o _ (World.block_lt_of_cell? w1 _ x21))).trans x21
    have hb0 : (0 : Int) ≤ (bk m ys : Int) := by omega
    have hb1 : (bk m ys : Int) < (m : Int) := by omega
    obtain ⟨i0, hi0, hz0, hz1, hz2⟩ := info_parts info65
    have HRW1 : Aside0 (w1.ownsRow w.heap.size 65 3 (vs1 (bk m ys)) (fch (bk m ys)).length (flat (fch (bk m ys)))) := ⟨row_of_block (HR.out.row _ hbl) (fun k hk => HK1.out k ((HR.out.row _ hbl).lt k hk).2)⟩
    have HRD : Aside0 ((w1.drew.alloc (.cells #[.string ys, .int .i64 yh, .int .i64 yq] 65)).ownsRow w.heap.size 65 3 (vs1 (bk m ys)) (fch (bk m ys)).length (flat (fch (bk m ys)))) := ⟨(World.ownsRow.alloc (w := w1.drew) HRW1.out _)⟩
    have HNW : Aside0 (∀ j u, [.string ys, .int .i64 yh, .int .i64 yq][j]? = some u → (w1.drew.alloc (.cells #[.string ys, .int .i64 yh, .int .i64 yq] 65)).cell? ((⟨w1.drew.heap.size, 0, none⟩ : Addr).add j) = some u) := ⟨World.news_of_block (w := w1.drew.alloc (.cells #[.string ys, .int .i64 yh, .int .i64 yq] 65)) (B := w1.drew.heap.size) (heap_alloc_new _ _)⟩
    have HN : Aside0 ((fch (bk m ys)).length ≤ 1000) := ⟨by have h1 := (HR.out.perm _ hbl).length_eq; have h2 := List.length_filter_le (fun x : En => bk m x.s == bk m ys) (pre.map norm); omega⟩
    have HNB : Aside0 (w.heap.size ≤ (w1.drew.alloc (.cells #[.string ys, .int .i64 yh, .int .i64 yq] 65)).heap.size) := ⟨by have h1 := hB1.size; have h2 := HZ1.out; show _ ≤ (w1.alloc _).heap.size; simp; omega⟩
    clear cS x0 x1 x2
    refine startIn_ (n := 8) (S := fun w' => w'.cell? ⟨w.heap.size + 1 + 1, 0, none⟩ = some (.slice (some ⟨w.heap.size + 1, 0, none⟩) m m) ∧ w'.cell? ⟨w.heap.size + 1, bk m ys, none⟩ = some (vs1 (bk m ys)) ∧ w'.cell? ⟨Bx, 0, none⟩ = some (.string ys) ∧ w'.cell? ⟨Bx, 1, none⟩ = some (.int .i64 yh) ∧ w'.cell? ⟨Bx, 2, none⟩ = some (.int .i64 yq)) (ds := [6]) #[false, false, false, false, false, false, false, false] (by kernel_rfl) (fun ⟨_, _, h⟩ => h) (by kernel_rfl) rfl rfl ⟨cS1, hcell1, x01, x11, x21⟩ (fun hHeld => ?_)
    refine take_ (i := 0) (N := (some 18)) (v := ?_) (a' := ?_) #[true, false, false, false, false, false, false, false] rfl rfl (by kernel_rfl) (fun _ _ _ h => h) (Or.inl ⟨by rfl, ?_⟩) hHeld ?_ ?_
    rotate_left
    · rintro w' ⟨s0, s1, s2, s3, s4⟩
      go_simp
      with_reducible rfl
    rotate_left
    · simp only [Act.put, List.setIfInBounds_toArray, List.set_cons_zero, List.set_cons_succ, i64_w, i32_w]
      rfl
    refine pure_ (i := 1) (N := (some 19)) (v := ?_) (a' := ?_) #[true, true, false, false, false, false, false, false] rfl rfl (by kernel_rfl) (fun _ _ _ h => h) (Or.inl ⟨by rfl, ?_⟩) ?_ ?_
    rotate_left
    · intro w'
      go_simp
      with_reducible rfl
    rotate_left
    · simp only [Act.put, List.setIfInBounds_toArray, List.set_cons_zero, List.set_cons_succ, i64_w, i32_w]
      rfl
    refine pure_ (i := 2) (N := (some 20)) (v := ?_) (a' := ?_) #[true, true, true, false, false, false, false, false] rfl rfl (by kernel_rfl) (fun _ _ _ h => h) (Or.inl ⟨by rfl, ?_⟩) ?_ ?_
    rotate_left
    · intro w'
      go_simp
      with_reducible rfl
    rotate_left
    · simp only [Act.put, List.setIfInBounds_toArray, List.set_cons_zero, List.set_cons_succ, i64_w, i32_w]
      rfl
    refine take_ (i := 3) (N := (some 21)) (v := ?_) (a' := ?_) #[true, true, true, true, false, false, false, false] rfl rfl (by kernel_rfl) (fun _ _ _ h => h) (Or.inl ⟨by rfl, ?_⟩) hHeld ?_ ?_
    rotate_left
    · rintro w' ⟨s0, s1, s2, s3, s4⟩
      go_simp
      with_reducible rfl
    rotate_left
    · simp only [Act.put, List.setIfInBounds_toArray, List.set_cons_zero, List.set_cons_succ, i64_w, i32_w]
      rfl
    refine take_ (i := 4) (N := (some 22)) (v := ?_) (a' := ?_) #[true, true, true, true, true, false, false, false] rfl rfl (by kernel_rfl) (fun _ _ _ h => h) (Or.inl ⟨by rfl, ?_⟩) hHeld ?_ ?_
    rotate_left
    · rintro w' ⟨s0, s1, s2, s3, s4⟩
      go_simp
      with_reducible rfl
    rotate_left
    · simp only [Act.put, List.setIfInBounds_toArray, List.set_cons_zero, List.set_cons_succ, i64_w, i32_w]
      rfl
    refine one_ (i := 5) (N := (some 23)) #[true, true, true, true, true, true, false, false] rfl rfl (by kernel_rfl) (by decide) (fun K hK => ?_)
    go_simp
    refine hK.out _ _ ⟨cSa _, hcella _, x0a _, x1a _, x2a _⟩ (fun hHeld => ?_)
    clear hK K
    refine last_ (i := 6) (N := (some 24)) #[true, true, true, true, true, true, true, false] rfl rfl (by kernel_rfl) (by decide) (fun K hK => ?_)
    refine step_append_lies _ rfl (.tmp 21) (.tmp 23) 63 rfl w.heap.size 65 i0 _ 3 32 Try.underlying63 hi0 hz0 hz1 hz2 rfl (by decide) (vs1 (bk m ys)) (fch (bk m ys)).length (flat (fch (bk m ys))) rfl HRD.out ⟨w1.heap.size, 0, none⟩ 1 1 [.string ys, .int .i64 yh, .int .i64 yq] rfl rfl HNW.out (by simp [Value.oneCell']) (by decide) (by have := HN.out; unfold maxLen; omega) (by have := HN.out; omega) HNB.out _ rfl ?_
    intro g cp w3 hown3 hgrow3 hat3 hlt3
    have HG3 := Aside0.mk hgrow3
    have HO3 := Aside0.mk hown3
    have HT3 := Aside0.mk hat3
    have HL3 := Aside0.mk hlt3
    clear hgrow3 hown3 hat3 hlt3
    refine hK.out _ _ ?_
    clear hK K
    refine norm_ (a' := ?_) ?_ ?_
    rotate_left
    · simp only [Act.put, List.setIfInBounds_toArray, List.set_cons_zero, List.set_cons_succ, i64_w, i32_w]
      rfl
    refine pure_ (i := 7) (N := (some 7)) (v := ?_) (a' := ?_) #[true, true, true, true, true, true, true, true] rfl rfl (by kernel_rfl) (fun _ _ _ h => h) (Or.inl ⟨by rfl, ?_⟩) ?_ ?_
    rotate_left
    · intro w'
      go_simp
      with_reducible rfl
    rotate_left
    · simp only [Act.put, List.setIfInBounds_toArray, List.set_cons_zero, List.set_cons_succ, i64_w, i32_w]
      rfl
    refine done_ (by kernel_rfl) ?_
    clear cS1 hcell1 x01 x11 x21 cSa hcella x0a x1a x2a HRD HNW HRW1 HNB hi0 hz0 hz1 hz2 hHeld
    have hlw : wrap64 (((fch (bk m ys)).length : Int) + 1 - 1) = ((fch (bk m ys)).length : Int) := by have := HN.out; unfold wrap64; omega
    have hlw2 : wrap64 ((fch (bk m ys)).length : Int) = ((fch (bk m ys)).length : Int) := by have := HN.out; unfold wrap64; omega
    gi_wp2
    gi_loopw [8] (fun i wr => ∃ p : Nat, p ≤ (fch (bk m ys)).length ∧ i = .int .i64 p ∧ Aside0 (∀ y ∈ (fch (bk m ys)).drop p, yq < y.q) ∧ Aside0 (wr.ownsRow w.heap.size 65 3 (.slice (some ⟨g, 0, none⟩) ((fch (bk m ys)).length + 1) cp) ((fch (bk m ys)).length + 1) (flat (insAt (fch (bk m ys)) ⟨ys, yh, yq⟩ p))) ∧ Aside0 (w3.grownBy wr (some g))) (fun i _ => (intOf i).toNat)
    case atStart => exact ⟨(fch (bk m ys)).length, Nat.le_refl _, by rw [hlw2], ⟨by simp⟩, ⟨by have h := HO3.out; simpa [insAt, flat_append, flat, En.vals] using h⟩, ⟨⟨rfl, rfl, rfl, Nat.le_refl _, fun _ _ _ => rfl⟩⟩⟩
    case round =>
      obtain ⟨p, hp, rfl, HD, HO, HG⟩ := hrel
      clear hlw hlw2
      have hlen9 := HN.out
      cases p with
      | zero =>
        have hp0 : ¬ (0 : Int) < ((0 : Nat) : Int) := by decide
        gi_wp2
        refine startIn_ (n := 16) (S := fun _ => True) (ds := []) #[false, false, false, false, false, false, false, false, false, false, false, false, false, false, false, false] (by kernel_rfl) (fun ⟨_, _, h⟩ => h) (by kernel_rfl) rfl rfl trivial (fun hHeld => ?_)
        refine pure_ (i := 0) (N := (some 28)) (v := ?_) (a' := ?_) #[true, false, false, false, false, false, false, false, false, false, false, false, false, false, false, false] rfl rfl (by kernel_rfl) (fun _ _ _ h => h) (Or.inl ⟨by rfl, ?_⟩) ?_ ?_
        rotate_left
        · intro w'
          go_simp
          with_reducible rfl
        rotate_left
        · simp only [Act.put, List.setIfInBounds_toArray, List.set_cons_zero, List.set_cons_succ, i64_w, i32_w]
          rfl
        refine pure_ (i := 1) (N := (some 29)) (v := ?_) (a' := ?_) #[true, true, false, false, false, false, false, false, false, false, false, false, false, false, false, false] rfl rfl (by kernel_rfl) (fun _ _ _ h => h) (Or.inl ⟨by rfl, ?_⟩) ?_ ?_
        rotate_left
        · intro w'
          go_simp
          with_reducible rfl
        rotate_left
        · simp only [Act.put, List.setIfInBounds_toArray, List.set_cons_zero, List.set_cons_succ, i64_w, i32_w]
          rfl
        refine pure_ (i := 2) (N := (some 30)) (v := ?_) (a' := ?_) #[true, true, true, false, false, false, false, false, false, false, false, false, false, false, false, false] rfl rfl (by kernel_rfl) (fun _ _ _ h => h) (Or.inl ⟨by rfl, ?_⟩) ?_ ?_
        rotate_left
        · intro w'
          go_simp
          with_reducible rfl
        rotate_left
        · simp only [Act.put, List.setIfInBounds_toArray, List.set_cons_zero, List.set_cons_succ, i64_w, i32_w]
          rfl
        refine pure_ (i := 3) (N := (some 31)) (v := undef) (a' := ?_) #[true, true, true, true, false, false, false, false, false, false, false, false, false, false, false, false] rfl rfl (by kernel_rfl) (fun _ _ _ h => h) (Or.inr ⟨by rfl, rfl⟩) ?_ ?_
        rotate_left
        · simp only [Act.put, List.setIfInBounds_toArray, List.set_cons_zero, List.set_cons_succ, i64_w, i32_w]
          rfl
        refine pure_ (i := 4) (N := (some 32)) (v := undef) (a' := ?_) #[true, true, true, true, true, false, false, false, false, false, false, false, false, false, false, false] rfl rfl (by kernel_rfl) (fun _ _ _ h => h) (Or.inr ⟨by rfl, rfl⟩) ?_ ?_
        rotate_left
        · simp only [Act.put, List.setIfInBounds_toArray, List.set_cons_zero, List.set_cons_succ, i64_w, i32_w]
          rfl
        refine pure_ (i := 5) (N := (some 33)) (v := undef) (a' := ?_) #[true, true, true, true, true, true, false, false, false, false, false, false, false, false, false, false] rfl rfl (by kernel_rfl) (fun _ _ _ h => h) (Or.inr ⟨by rfl, rfl⟩) ?_ ?_
        rotate_left
        · simp only [Act.put, List.setIfInBounds_toArray, List.set_cons_zero, List.set_cons_succ, i64_w, i32_w]
          rfl
        refine pure_ (i := 6) (N := (some 34)) (v := undef) (a' := ?_) #[true, true, true, true, true, true, true, false, false, false, false, false, false, false, false, false] rfl rfl (by kernel_rfl) (fun _ _ _ h => h) (Or.inr ⟨by rfl, rfl⟩) ?_ ?_
        rotate_left
        · simp only [Act.put, List.setIfInBounds_toArray, List.set_cons_zero, List.set_cons_succ, i64_w, i32_w]
          rfl
        refine pure_ (i := 7) (N := (some 35)) (v := undef) (a' := ?_) #[true, true, true, true, true, true, true, true, false, false, false, false, false, false, false, false] rfl rfl (by kernel_rfl) (fun _ _ _ h => h) (Or.inr ⟨by rfl, rfl⟩) ?_ ?_
        rotate_left
        · simp only [Act.put, List.setIfInBounds_toArray, List.set_cons_zero, List.set_cons_succ, i64_w, i32_w]
          rfl
        refine pure_ (i := 8) (N := (some 36)) (v := undef) (a' := ?_) #[true, true, true, true, true, true, true, true, true, false, false, false, false, false, false, false] rfl rfl (by kernel_rfl) (fun _ _ _ h => h) (Or.inr ⟨by rfl, rfl⟩) ?_ ?_
        rotate_left
        · simp only [Act.put, List.setIfInBounds_toArray, List.set_cons_zero, List.set_cons_succ, i64_w, i32_w]
          rfl
        refine pure_ (i := 9) (N := (some 37)) (v := undef) (a' := ?_) #[true, true, true, true, true, true, true, true, true, true, false, false, false, false, false, false] rfl rfl (by kernel_rfl) (fun _ _ _ h => h) (Or.inr ⟨by rfl, rfl⟩) ?_ ?_
        rotate_left
        · simp only [Act.put, List.setIfInBounds_toArray, List.set_cons_zero, List.set_cons_succ, i64_w, i32_w]
          rfl
        refine pure_ (i := 10) (N := (some 38)) (v := undef) (a' := ?_) #[true, true, true, true, true, true, true, true, true, true, true, false, false, false, false, false] rfl rfl (by kernel_rfl) (fun _ _ _ h => h) (Or.inr ⟨by rfl, rfl⟩) ?_ ?_
        rotate_left
        · simp only [Act.put, List.setIfInBounds_toArray, List.set_cons_zero, List.set_cons_succ, i64_w, i32_w]
          rfl
        refine pure_ (i := 11) (N := (some 39)) (v := undef) (a' := ?_) #[true, true, true, true, true, true, true, true, true, true, true, true, false, false, false, false] rfl rfl (by kernel_rfl) (fun _ _ _ h => h) (Or.inr ⟨by rfl, rfl⟩) ?_ ?_
        rotate_left
        · simp only [Act.put, List.setIfInBounds_toArray, List.set_cons_zero, List.set_cons_succ, i64_w, i32_w]
          rfl
        refine pure_ (i := 12) (N := (some 40)) (v := undef) (a' := ?_) #[true, true, true, true, true, true, true, true, true, true, true, true, true, false, false, false] rfl rfl (by kernel_rfl) (fun _ _ _ h => h) (Or.inr ⟨by rfl, rfl⟩) ?_ ?_
        rotate_left
        · simp only [Act.put, List.setIfInBounds_toArray, List.set_cons_zero, List.set_cons_succ, i64_w, i32_w]
          rfl
        refine pure_ (i := 13) (N := (some 41)) (v := undef) (a' := ?_) #[true, true, true, true, true, true, true, true, true, true, true, true, true, true, false, false] rfl rfl (by kernel_rfl) (fun _ _ _ h => h) (Or.inr ⟨by rfl, rfl⟩) ?_ ?_
        rotate_left
        · simp only [Act.put, List.setIfInBounds_toArray, List.set_cons_zero, List.set_cons_succ, i64_w, i32_w]
          rfl
        refine pure_ (i := 14) (N := (some 42)) (v := undef) (a' := ?_) #[true, true, true, true, true, true, true, true, true, true, true, true, true, true, true, false] rfl rfl (by kernel_rfl) (fun _ _ _ h => h) (Or.inr ⟨by rfl, rfl⟩) ?_ ?_
        rotate_left
        · simp only [Act.put, List.setIfInBounds_toArray, List.set_cons_zero, List.set_cons_succ, i64_w, i32_w]
          rfl
        refine pure_ (i := 15) (N := (some 43)) (v := ?_) (a' := ?_) #[true, true, true, true, true, true, true, true, true, true, true, true, true, true, true, true] rfl rfl (by kernel_rfl) (fun _ _ _ h => h) (Or.inl ⟨by rfl, ?_⟩) ?_ ?_
        rotate_left
        · intro w'
          go_simp
          with_reducible rfl
        rotate_left
        · simp only [Act.put, List.setIfInBounds_toArray, List.set_cons_zero, List.set_cons_succ, i64_w, i32_w]
          rfl
        refine done_ (by kernel_rfl) ?_
        have HTK : Aside0 (∀ y ∈ (fch (bk m ys)).take 0, y.q ≤ yq) := ⟨by simp⟩
        have far := round_far (cp := 0) (n := 0) (xs := []) HR.out hbl bN1 bS1 HK1.out HZ1.out HG3.out HT3.out HG.out
        have cSr := (World.cell?_of_block (a := ⟨w.heap.size + 1 + 1, 0, none⟩) (far _ (Or.inr (Or.inr rfl))).2.2.2).trans bS1.cell
        have cFr := (World.cell?_of_block (a := ⟨w.heap.size + 1, bk m ys, none⟩) (far _ (Or.inr (Or.inl rfl))).2.2.2).trans (HR.out.ch.cell hbl)
        have fFr := (World.frozen?_of_block (a := ⟨w.heap.size + 1, bk m ys, none⟩) (far _ (Or.inr (Or.inl rfl))).2.2.2).trans (HR.out.ch.frozen (bk m ys))
        clear far
        gi_wp2
        obtain ⟨e1, e2, ⟨e3, e4⟩, e5⟩ := round_end (x := ⟨ys, yh, yq⟩) HR.out hbl hB1.size bN1 bS1 HK1.out HZ1.out HB1.out HF1.out HG3.out HT3.out HO3.out HG.out hp HO.out HD.out HTK.out
        exact ⟨e1.from _, e2, ⟨⟨e3, e4⟩, by rw [List.map_append, List.map_cons, List.map_nil, HY.out]; exact e5⟩, hB1.trans e2⟩
      | succ r1 =>
        obtain ⟨z, hz⟩ : ∃ z, (fch (bk m ys))[r1]? = some z := ⟨_, List.getElem?_eq_getElem (by omega)⟩
        obtain ⟨pA, capA, eA, hxA⟩ := ownsRow_val (c := insAt (fch (bk m ys)) ⟨ys, yh, yq⟩ (r1 + 1)) (by rw [insAt_length _ _ hp]; exact ownsRow_zero HO.out)
        obtain ⟨gA, e1, _, a0, a1, a2⟩ := hxA r1 z (by rw [insAt_left _ _ hp (by omega)]; exact hz)
        obtain ⟨gB, e2, _, b0, b1, b2⟩ := hxA (r1 + 1) _ (insAt_get _ _ hp)
        have eg : g = gA ∧ g = gB := by
          rw [e1] at e2
          rw [e1] at eA
          simp only [Value.slice.injEq, Option.some.injEq, Addr.mk.injEq] at eA e2
          exact ⟨eA.1.1, eA.1.1.trans e2.1⟩
        obtain ⟨rfl, rfl⟩ := eg
        clear eA e1 e2 hxA
        have HZ := Aside0.mk hz
        clear hz
        obtain ⟨zs, zh, zq⟩ := z
        dsimp only at a0 a1 a2 b0 b1 b2
        have hp0 : (0 : Int) < ((r1 + 1 : Nat) : Int) := by omega
        have hr0 : (0 : Int) ≤ (r1 : Int) := by omega
        have hr1 : (r1 : Int) < (((fch (bk m ys)).length + 1 : Nat) : Int) := by omega
        have hr2 : ((r1 + 1 : Nat) : Int) < (((fch (bk m ys)).length + 1 : Nat) : Int) := by omega
        have hr3 : (r1 : Int) < ((fch (bk m ys)).length : Int) + 1 := by omega
        have hr4 : (r1 : Int) < ((fch (bk m ys)).length : Int) := by omega
        have hr5 : (0 : Int) ≤ (r1 : Int) + 1 := by omega
        have hr6 : (0 : Int) < (r1 : Int) + 1 := by omega
        have hfz := row_frozen HO.out
        have HWP : Aside0 (wrap64 (r1 : Int) = (r1 : Int)) := ⟨by unfold wrap64; omega⟩
        by_cases hgt : yq < zq
        · have hgt0 : zq > yq := hgt
          gi_wp2
          have hwp := HWP.out
          refine startIn_ (n := 16) (S := fun w' => w'.cell? ⟨g, r1 * 3 + 2, none⟩ = some (.int .i64 zq) ∧ w'.cell? ⟨g, (r1 + 1) * 3 + 2, none⟩ = some (.int .i64 yq)) (ds := []) #[false, false, false, false, false, false, false, false, false, false, false, false, false, false, false, false] (by kernel_rfl) (fun ⟨_, _, h⟩ => h) (by kernel_rfl) rfl rfl ⟨a2, b2⟩ (fun hHeld => ?_)
          refine pure_ (i := 0) (N := (some 28)) (v := ?_) (a' := ?_) #[true, false, false, false, false, false, false, false, false, false, false, false, false, false, false, false] rfl rfl (by kernel_rfl) (fun _ _ _ h => h) (Or.inl ⟨by rfl, ?_⟩) ?_ ?_
          rotate_left
          · intro w'
            go_simp
            with_reducible rfl
          rotate_left
          · simp only [Act.put, List.setIfInBounds_toArray, List.set_cons_zero, List.set_cons_succ, i64_w, i32_w]
            rfl
          refine pure_ (i := 1) (N := (some 29)) (v := ?_) (a' := ?_) #[true, true, false, false, false, false, false, false, false, false, false, false, false, false, false, false] rfl rfl (by kernel_rfl) (fun _ _ _ h => h) (Or.inl ⟨by rfl, ?_⟩) ?_ ?_
          rotate_left
          · intro w'
            go_simp
            with_reducible rfl
          rotate_left
          · simp only [Act.put, List.setIfInBounds_toArray, List.set_cons_zero, List.set_cons_succ, i64_w, i32_w]
            rfl
          refine pure_ (i := 2) (N := (some 30)) (v := ?_) (a' := ?_) #[true, true, true, false, false, false, false, false, false, false, false, false, false, false, false, false] rfl rfl (by kernel_rfl) (fun _ _ _ h => h) (Or.inl ⟨by rfl, ?_⟩) ?_ ?_
          rotate_left
          · intro w'
            go_simp
            with_reducible rfl
          rotate_left
          · simp only [Act.put, List.setIfInBounds_toArray, List.set_cons_zero, List.set_cons_succ, i64_w, i32_w]
            rfl
          refine pure_ (i := 3) (N := (some 31)) (v := ?_) (a' := ?_) #[true, true, true, true, false, false, false, false, false, false, false, false, false, false, false, false] rfl rfl (by kernel_rfl) (fun _ _ _ h => h) (Or.inl ⟨by rfl, ?_⟩) ?_ ?_
          rotate_left
          · intro w'
            go_simp
            with_reducible rfl
          rotate_left
          · simp only [Act.put, List.setIfInBounds_toArray, List.set_cons_zero, List.set_cons_succ, i64_w, i32_w]
            rfl
          refine pure_ (i := 4) (N := (some 32)) (v := ?_) (a' := ?_) #[true, true, true, true, true, false, false, false, false, false, false, false, false, false, false, false] rfl rfl (by kernel_rfl) (fun _ _ _ h => h) (Or.inl ⟨by rfl, ?_⟩) ?_ ?_
          rotate_left
          · intro w'
            go_simp
            with_reducible rfl
          rotate_left
          · simp only [Act.put, List.setIfInBounds_toArray, List.set_cons_zero, List.set_cons_succ, i64_w, i32_w]
            rfl
          refine pure_ (i := 5) (N := (some 33)) (v := ?_) (a' := ?_) #[true, true, true, true, true, true, false, false, false, false, false, false, false, false, false, false] rfl rfl (by kernel_rfl) (fun _ _ _ h => h) (Or.inl ⟨by rfl, ?_⟩) ?_ ?_
          rotate_left
          · intro w'
            go_simp
            with_reducible rfl
          rotate_left
          · simp only [Act.put, List.setIfInBounds_toArray, List.set_cons_zero, List.set_cons_succ, i64_w, i32_w]
            rfl
          refine pure_ (i := 6) (N := (some 34)) (v := ?_) (a' := ?_) #[true, true, true, true, true, true, true, false, false, false, false, false, false, false, false, false] rfl rfl (by kernel_rfl) (fun _ _ _ h => h) (Or.inl ⟨by rfl, ?_⟩) ?_ ?_
          rotate_left
          · intro w'
            go_simp
            with_reducible rfl
          rotate_left
          · simp only [Act.put, List.setIfInBounds_toArray, List.set_cons_zero, List.set_cons_succ, i64_w, i32_w]
            rfl
          refine pure_ (i := 7) (N := (some 35)) (v := ?_) (a' := ?_) #[true, true, true, true, true, true, true, true, false, false, false, false, false, false, false, false] rfl rfl (by kernel_rfl) (fun _ _ _ h => h) (Or.inl ⟨by rfl, ?_⟩) ?_ ?_
          rotate_left
          · intro w'
            go_simp
            with_reducible rfl
          rotate_left
          · simp only [Act.put, List.setIfInBounds_toArray, List.set_cons_zero, List.set_cons_succ, i64_w, i32_w]
            rfl
          refine take_ (i := 8) (N := (some 36)) (v := ?_) (a' := ?_) #[true, true, true, true, true, true, true, true, true, false, false, false, false, false, false, false] rfl rfl (by kernel_rfl) (fun _ _ _ h => h) (Or.inl ⟨by rfl, ?_⟩) hHeld ?_ ?_
          rotate_left
          · rintro w' ⟨s0, s1⟩
            go_simp
            with_reducible rfl
          rotate_left
          · simp only [Act.put, List.setIfInBounds_toArray, List.set_cons_zero, List.set_cons_succ, i64_w, i32_w]
            rfl
          refine pure_ (i := 9) (N := (some 37)) (v := ?_) (a' := ?_) #[true, true, true, true, true, true, true, true, true, true, false, false, false, false, false, false] rfl rfl (by kernel_rfl) (fun _ _ _ h => h) (Or.inl ⟨by rfl, ?_⟩) ?_ ?_
          rotate_left
          · intro w'
            go_simp
            with_reducible rfl
          rotate_left
          · simp only [Act.put, List.setIfInBounds_toArray, List.set_cons_zero, List.set_cons_succ, i64_w, i32_w]
            rfl
          refine pure_ (i := 10) (N := (some 38)) (v := ?_) (a' := ?_) #[true, true, true, true, true, true, true, true, true, true, true, false, false, false, false, false] rfl rfl (by kernel_rfl) (fun _ _ _ h => h) (Or.inl ⟨by rfl, ?_⟩) ?_ ?_
          rotate_left
          · intro w'
            go_simp
            with_reducible rfl
          rotate_left
          · simp only [Act.put, List.setIfInBounds_toArray, List.set_cons_zero, List.set_cons_succ, i64_w, i32_w]
            rfl
          refine pure_ (i := 11) (N := (some 39)) (v := ?_) (a' := ?_) #[true, true, true, true, true, true, true, true, true, true, true, true, false, false, false, false] rfl rfl (by kernel_rfl) (fun _ _ _ h => h) (Or.inl ⟨by rfl, ?_⟩) ?_ ?_
          rotate_left
          · intro w'
            go_simp
            with_reducible rfl
          rotate_left
          · simp only [Act.put, List.setIfInBounds_toArray, List.set_cons_zero, List.set_cons_succ, i64_w, i32_w]
            rfl
          refine pure_ (i := 12) (N := (some 40)) (v := ?_) (a' := ?_) #[true, true, true, true, true, true, true, true, true, true, true, true, true, false, false, false] rfl rfl (by kernel_rfl) (fun _ _ _ h => h) (Or.inl ⟨by rfl, ?_⟩) ?_ ?_
          rotate_left
          · intro w'
            go_simp
            with_reducible rfl
          rotate_left
          · simp only [Act.put, List.setIfInBounds_toArray, List.set_cons_zero, List.set_cons_succ, i64_w, i32_w]
            rfl
          refine take_ (i := 13) (N := (some 41)) (v := ?_) (a' := ?_) #[true, true, true, true, true, true, true, true, true, true, true, true, true, true, false, false] rfl rfl (by kernel_rfl) (fun _ _ _ h => h) (Or.inl ⟨by rfl, ?_⟩) hHeld ?_ ?_
          rotate_left
          · rintro w' ⟨s0, s1⟩
            go_simp
            with_reducible rfl
          rotate_left
          · simp only [Act.put, List.setIfInBounds_toArray, List.set_cons_zero, List.set_cons_succ, i64_w, i32_w]
            rfl
          refine pure_ (i := 14) (N := (some 42)) (v := ?_) (a' := ?_) #[true, true, true, true, true, true, true, true, true, true, true, true, true, true, true, false] rfl rfl (by kernel_rfl) (fun _ _ _ h => h) (Or.inl ⟨by rfl, ?_⟩) ?_ ?_
          rotate_left
          · intro w'
            go_simp
            with_reducible rfl
          rotate_left
          · simp only [Act.put, List.setIfInBounds_toArray, List.set_cons_zero, List.set_cons_succ, i64_w, i32_w]
            rfl
          refine pure_ (i := 15) (N := (some 43)) (v := ?_) (a' := ?_) #[true, true, true, true, true, true, true, true, true, true, true, true, true, true, true, true] rfl rfl (by kernel_rfl) (fun _ _ _ h => h) (Or.inl ⟨by rfl, ?_⟩) ?_ ?_
          rotate_left
          · intro w'
            go_simp
            with_reducible rfl
          rotate_left
          · simp only [Act.put, List.setIfInBounds_toArray, List.set_cons_zero, List.set_cons_succ, i64_w, i32_w]
            rfl
          refine done_ (by kernel_rfl) ?_
          gi_wp2
          refine startIn_ (n := 18) (S := fun w' => w'.cell? ⟨g, r1 * 3, none⟩ = some (.string zs) ∧ w'.cell? ⟨g, r1 * 3 + 1, none⟩ = some (.int .i64 zh) ∧ w'.cell? ⟨g, r1 * 3 + 2, none⟩ = some (.int .i64 zq) ∧ w'.cell? ⟨g, (r1 + 1) * 3, none⟩ = some (.string ys) ∧ w'.cell? ⟨g, (r1 + 1) * 3 + 1, none⟩ = some (.int .i64 yh) ∧ w'.cell? ⟨g, (r1 + 1) * 3 + 2, none⟩ = some (.int .i64 yq)) (ds := [15, 17]) #[false, false, false, false, false, false, false, false, false, false, false, false, false, false, false, false, false, false] (by kernel_rfl) (fun ⟨_, _, h⟩ => h) (by kernel_rfl) rfl rfl ⟨a0, a1, a2, b0, b1, b2⟩ (fun hHeld => ?_)
          refine pure_ (i := 0) (N := (some 46)) (v := ?_) (a' := ?_) #[true, false, false, false, false, false, false, false, false, false, false, false, false, false, false, false, false, false] rfl rfl (by kernel_rfl) (fun _ _ _ h => h) (Or.inl ⟨by rfl, ?_⟩) ?_ ?_
          rotate_left
          · intro w'
            go_simp
            with_reducible rfl
          rotate_left
          · simp only [Act.put, List.setIfInBounds_toArray, List.set_cons_zero, List.set_cons_succ, i64_w, i32_w]
            rfl
          refine pure_ (i := 1) (N := (some 47)) (v := ?_) (a' := ?_) #[true, true, false, false, false, false, false, false, false, false, false, false, false, false, false, false, false, false] rfl rfl (by kernel_rfl) (fun _ _ _ h => h) (Or.inl ⟨by rfl, ?_⟩) ?_ ?_
          rotate_left
          · intro w'
            go_simp
            with_reducible rfl
          rotate_left
          · simp only [Act.put, List.setIfInBounds_toArray, List.set_cons_zero, List.set_cons_succ, i64_w, i32_w]
            rfl
          refine pure_ (i := 2) (N := (some 48)) (v := ?_) (a' := ?_) #[true, true, true, false, false, false, false, false, false, false, false, false, false, false, false, false, false, false] rfl rfl (by kernel_rfl) (fun _ _ _ h => h) (Or.inl ⟨by rfl, ?_⟩) ?_ ?_
          rotate_left
          · intro w'
            go_simp
            with_reducible rfl
          rotate_left
          · simp only [Act.put, List.setIfInBounds_toArray, List.set_cons_zero, List.set_cons_succ, i64_w, i32_w]
            rfl
          refine pure_ (i := 3) (N := (some 49)) (v := ?_) (a' := ?_) #[true, true, true, true, false, false, false, false, false, false, false, false, false, false, false, false, false, false] rfl rfl (by kernel_rfl) (fun _ _ _ h => h) (Or.inl ⟨by rfl, ?_⟩) ?_ ?_
          rotate_left
          · intro w'
            go_simp
            with_reducible rfl
          rotate_left
          · simp only [Act.put, List.setIfInBounds_toArray, List.set_cons_zero, List.set_cons_succ, i64_w, i32_w]
            rfl
          refine pure_ (i := 4) (N := (some 50)) (v := ?_) (a' := ?_) #[true, true, true, true, true, false, false, false, false, false, false, false, false, false, false, false, false, false] rfl rfl (by kernel_rfl) (fun _ _ _ h => h) (Or.inl ⟨by rfl, ?_⟩) ?_ ?_
          rotate_left
          · intro w'
            go_simp
            with_reducible rfl
          rotate_left
          · simp only [Act.put, List.setIfInBounds_toArray, List.set_cons_zero, List.set_cons_succ, i64_w, i32_w]
            rfl
          refine pure_ (i := 5) (N := (some 51)) (v := ?_) (a' := ?_) #[true, true, true, true, true, true, false, false, false, false, false, false, false, false, false, false, false, false] rfl rfl (by kernel_rfl) (fun _ _ _ h => h) (Or.inl ⟨by rfl, ?_⟩) ?_ ?_
          rotate_left
          · intro w'
            go_simp
            with_reducible rfl
          rotate_left
          · simp only [Act.put, List.setIfInBounds_toArray, List.set_cons_zero, List.set_cons_succ, i64_w, i32_w]
            rfl
          refine pure_ (i := 6) (N := (some 52)) (v := ?_) (a' := ?_) #[true, true, true, true, true, true, true, false, false, false, false, false, false, false, false, false, false, false] rfl rfl (by kernel_rfl) (fun _ _ _ h => h) (Or.inl ⟨by rfl, ?_⟩) ?_ ?_
          rotate_left
          · intro w'
            go_simp
            with_reducible rfl
          rotate_left
          · simp only [Act.put, List.setIfInBounds_toArray, List.set_cons_zero, List.set_cons_succ, i64_w, i32_w]
            rfl
          refine pure_ (i := 7) (N := (some 53)) (v := ?_) (a' := ?_) #[true, true, true, true, true, true, true, true, false, false, false, false, false, false, false, false, false, false] rfl rfl (by kernel_rfl) (fun _ _ _ h => h) (Or.inl ⟨by rfl, ?_⟩) ?_ ?_
          rotate_left
          · intro w'
            go_simp
            with_reducible rfl
          rotate_left
          · simp only [Act.put, List.setIfInBounds_toArray, List.set_cons_zero, List.set_cons_succ, i64_w, i32_w]
            rfl
          refine take_ (i := 8) (N := (some 54)) (v := ?_) (a' := ?_) #[true, true, true, true, true, true, true, true, true, false, false, false, false, false, false, false, false, false] rfl rfl (by kernel_rfl) (fun _ _ _ h => h) (Or.inl ⟨by rfl, ?_⟩) hHeld ?_ ?_
          rotate_left
          · rintro w' ⟨s0, s1, s2, s3, s4, s5⟩
            go_simp
            with_reducible rfl
          rotate_left
          · simp only [Act.put, List.setIfInBounds_toArray, List.set_cons_zero, List.set_cons_succ, i64_w, i32_w]
            rfl
          refine pure_ (i := 9) (N := (some 55)) (v := ?_) (a' := ?_) #[true, true, true, true, true, true, true, true, true, true, false, false, false, false, false, false, false, false] rfl rfl (by kernel_rfl) (fun _ _ _ h => h) (Or.inl ⟨by rfl, ?_⟩) ?_ ?_
          rotate_left
          · intro w'
            go_simp
            with_reducible rfl
          rotate_left
          · simp only [Act.put, List.setIfInBounds_toArray, List.set_cons_zero, List.set_cons_succ, i64_w, i32_w]
            rfl
          refine pure_ (i := 10) (N := (some 56)) (v := ?_) (a' := ?_) #[true, true, true, true, true, true, true, true, true, true, true, false, false, false, false, false, false, false] rfl rfl (by kernel_rfl) (fun _ _ _ h => h) (Or.inl ⟨by rfl, ?_⟩) ?_ ?_
          rotate_left
          · intro w'
            go_simp
            with_reducible rfl
          rotate_left
          · simp only [Act.put, List.setIfInBounds_toArray, List.set_cons_zero, List.set_cons_succ, i64_w, i32_w]
            rfl
          refine pure_ (i := 11) (N := (some 57)) (v := ?_) (a' := ?_) #[true, true, true, true, true, true, true, true, true, true, true, true, false, false, false, false, false, false] rfl rfl (by kernel_rfl) (fun _ _ _ h => h) (Or.inl ⟨by rfl, ?_⟩) ?_ ?_
          rotate_left
          · intro w'
            go_simp
            with_reducible rfl
          rotate_left
          · simp only [Act.put, List.setIfInBounds_toArray, List.set_cons_zero, List.set_cons_succ, i64_w, i32_w]
            rfl
          refine pure_ (i := 12) (N := (some 58)) (v := ?_) (a' := ?_) #[true, true, true, true, true, true, true, true, true, true, true, true, true, false, false, false, false, false] rfl rfl (by kernel_rfl) (fun _ _ _ h => h) (Or.inl ⟨by rfl, ?_⟩) ?_ ?_
          rotate_left
          · intro w'
            go_simp
            with_reducible rfl
          rotate_left
          · simp only [Act.put, List.setIfInBounds_toArray, List.set_cons_zero, List.set_cons_succ, i64_w, i32_w]
            rfl
          refine take_ (i := 13) (N := (some 59)) (v := ?_) (a' := ?_) #[true, true, true, true, true, true, true, true, true, true, true, true, true, true, false, false, false, false] rfl rfl (by kernel_rfl) (fun _ _ _ h => h) (Or.inl ⟨by rfl, ?_⟩) hHeld ?_ ?_
          rotate_left
          · rintro w' ⟨s0, s1, s2, s3, s4, s5⟩
            go_simp
            with_reducible rfl
          rotate_left
          · simp only [Act.put, List.setIfInBounds_toArray, List.set_cons_zero, List.set_cons_succ, i64_w, i32_w]
            rfl
          refine pure_ (i := 14) (N := (some 60)) (v := ?_) (a' := ?_) #[true, true, true, true, true, true, true, true, true, true, true, true, true, true, true, false, false, false] rfl rfl (by kernel_rfl) (fun _ _ _ h => h) (Or.inl ⟨by rfl, ?_⟩) ?_ ?_
          rotate_left
          · intro w'
            go_simp
            with_reducible rfl
          rotate_left
          · simp only [Act.put, List.setIfInBounds_toArray, List.set_cons_zero, List.set_cons_succ, i64_w, i32_w]
            rfl
          refine last_ (i := 15) (N := none) #[true, true, true, true, true, true, true, true, true, true, true, true, true, true, true, true, false, false] rfl rfl (by kernel_rfl) (by decide) (fun K hK => ?_)
          go_simp
          refine hK.out _ _ ?_
          clear hK K
          refine pure_ (i := 16) (N := (some 61)) (v := ?_) (a' := ?_) #[true, true, true, true, true, true, true, true, true, true, true, true, true, true, true, true, true, false] rfl rfl (by kernel_rfl) (fun _ _ _ h => h) (Or.inl ⟨by rfl, ?_⟩) ?_ ?_
          rotate_left
          · intro w'
            go_simp
            with_reducible rfl
          rotate_left
          · simp only [Act.put, List.setIfInBounds_toArray, List.set_cons_zero, List.set_cons_succ, i64_w, i32_w]
            rfl
          refine last_ (i := 17) (N := none) #[true, true, true, true, true, true, true, true, true, true, true, true, true, true, true, true, true, true] rfl rfl (by kernel_rfl) (by decide) (fun K hK => ?_)
          go_simp
          refine hK.out _ _ ?_
          clear hK K
          refine done_ (by kernel_rfl) ?_
          clear hwp
          gi_wp2
          try rw [HWP.out]
          have hl := insAt_length (fch (bk m ys)) ⟨ys, yh, yq⟩ hp
          have h0 : wr.ownsRow w.heap.size 65 3 (.slice (some ⟨g, 0, none⟩) (insAt (fch (bk m ys)) ⟨ys, yh, yq⟩ (r1 + 1)).length cp) (insAt (fch (bk m ys)) ⟨ys, yh, yq⟩ (r1 + 1)).length (flat (insAt (fch (bk m ys)) ⟨ys, yh, yq⟩ (r1 + 1))) := by rw [hl]; exact HO.out
          have h1 := row_put (i := r1) (a := ⟨ys, yh, yq⟩) h0 (by rw [hl]; omega)
          have e1 : ((insAt (fch (bk m ys)) ⟨ys, yh, yq⟩ (r1 + 1)).set r1 ⟨ys, yh, yq⟩).length = (insAt (fch (bk m ys)) ⟨ys, yh, yq⟩ (r1 + 1)).length := List.length_set ..
          rw [← e1] at h1
          have h2 := row_put (i := r1 + 1) (a := ⟨zs, zh, zq⟩) h1 (by rw [e1, hl]; omega)
          rw [insAt_step _ _ _ (by omega) HZ.out, e1, hl] at h2
          have h3 := grown_set (grown_set (grown_set (grown_set (grown_set (grown_set HG.out (r1 * 3) (.string ys)) (r1 * 3 + 1) (.int .i64 yh)) (r1 * 3 + 2) (.int .i64 yq)) ((r1 + 1) * 3) (.string zs)) ((r1 + 1) * 3 + 1) (.int .i64 zh)) ((r1 + 1) * 3 + 2) (.int .i64 zq)
          refine ⟨⟨r1, by omega, rfl, ⟨fun y hy => ?_⟩, ⟨ownsRow_drew (ownsRow_drew h2)⟩, ⟨grown_drew (grown_drew h3)⟩⟩, by show (r1 : Int).toNat < ((r1 + 1 : Nat) : Int).toNat; omega⟩
          obtain ⟨hlz, ez⟩ := List.getElem?_eq_some_iff.1 HZ.out
          rw [List.drop_eq_getElem_cons hlz, ez] at hy
          rcases List.mem_cons.1 hy with rfl | hy
          · exact hgt
          · exact HD.out y hy
        · have hgt0 : ¬ zq > yq := hgt
          gi_wp2
          have hwp := HWP.out
          refine startIn_ (n := 16) (S := fun w' => w'.cell? ⟨g, r1 * 3 + 2, none⟩ = some (.int .i64 zq) ∧ w'.cell? ⟨g, (r1 + 1) * 3 + 2, none⟩ = some (.int .i64 yq)) (ds := []) #[false, false, false, false, false, false, false, false, false, false, false, false, false, false, false, false] (by kernel_rfl) (fun ⟨_, _, h⟩ => h) (by kernel_rfl) rfl rfl ⟨a2, b2⟩ (fun hHeld => ?_)
          refine pure_ (i := 0) (N := (some 28)) (v := ?_) (a' := ?_) #[true, false, false, false, false, false, false, false, false, false, false, false, false, false, false, false] rfl rfl (by kernel_rfl) (fun _ _ _ h => h) (Or.inl ⟨by rfl, ?_⟩) ?_ ?_
          rotate_left
          · intro w'
            go_simp
            with_reducible rfl
          rotate_left
          · simp only [Act.put, List.setIfInBounds_toArray, List.set_cons_zero, List.set_cons_succ, i64_w, i32_w]
            rfl
          refine pure_ (i := 1) (N := (some 29)) (v := ?_) (a' := ?_) #[true, true, false, false, false, false, false, false, false, false, false, false, false, false, false, false] rfl rfl (by kernel_rfl) (fun _ _ _ h => h) (Or.inl ⟨by rfl, ?_⟩) ?_ ?_
          rotate_left
          · intro w'
            go_simp
            with_reducible rfl
          rotate_left
          · simp only [Act.put, List.setIfInBounds_toArray, List.set_cons_zero, List.set_cons_succ, i64_w, i32_w]
            rfl
          refine pure_ (i := 2) (N := (some 30)) (v := ?_) (a' := ?_) #[true, true, true, false, false, false, false, false, false, false, false, false, false, false, false, false] rfl rfl (by kernel_rfl) (fun _ _ _ h => h) (Or.inl ⟨by rfl, ?_⟩) ?_ ?_
          rotate_left
          · intro w'
            go_simp
            with_reducible rfl
          rotate_left
          · simp only [Act.put, List.setIfInBounds_toArray, List.set_cons_zero, List.set_cons_succ, i64_w, i32_w]
            rfl
          refine pure_ (i := 3) (N := (some 31)) (v := ?_) (a' := ?_) #[true, true, true, true, false, false, false, false, false, false, false, false, false, false, false, false] rfl rfl (by kernel_rfl) (fun _ _ _ h => h) (Or.inl ⟨by rfl, ?_⟩) ?_ ?_
          rotate_left
          · intro w'
            go_simp
            with_reducible rfl
          rotate_left
          · simp only [Act.put, List.setIfInBounds_toArray, List.set_cons_zero, List.set_cons_succ, i64_w, i32_w]
            rfl
          refine pure_ (i := 4) (N := (some 32)) (v := ?_) (a' := ?_) #[true, true, true, true, true, false, false, false, false, false, false, false, false, false, false, false] rfl rfl (by kernel_rfl) (fun _ _ _ h => h) (Or.inl ⟨by rfl, ?_⟩) ?_ ?_
          rotate_left
          · intro w'
            go_simp
            with_reducible rfl
          rotate_left
          · simp only [Act.put, List.setIfInBounds_toArray, List.set_cons_zero, List.set_cons_succ, i64_w, i32_w]
            rfl
          refine pure_ (i := 5) (N := (some 33)) (v := ?_) (a' := ?_) #[true, true, true, true, true, true, false, false, false, false, false, false, false, false, false, false] rfl rfl (by kernel_rfl) (fun _ _ _ h => h) (Or.inl ⟨by rfl, ?_⟩) ?_ ?_
          rotate_left
          · intro w'
            go_simp
            with_reducible rfl
          rotate_left
          · simp only [Act.put, List.setIfInBounds_toArray, List.set_cons_zero, List.set_cons_succ, i64_w, i32_w]
            rfl
          refine pure_ (i := 6) (N := (some 34)) (v := ?_) (a' := ?_) #[true, true, true, true, true, true, true, false, false, false, false, false, false, false, false, false] rfl rfl (by kernel_rfl) (fun _ _ _ h => h) (Or.inl ⟨by rfl, ?_⟩) ?_ ?_
          rotate_left
          · intro w'
            go_simp
            with_reducible rfl
          rotate_left
          · simp only [Act.put, List.setIfInBounds_toArray, List.set_cons_zero, List.set_cons_succ, i64_w, i32_w]
            rfl
          refine pure_ (i := 7) (N := (some 35)) (v := ?_) (a' := ?_) #[true, true, true, true, true, true, true, true, false, false, false, false, false, false, false, false] rfl rfl (by kernel_rfl) (fun _ _ _ h => h) (Or.inl ⟨by rfl, ?_⟩) ?_ ?_
          rotate_left
          · intro w'
            go_simp
            with_reducible rfl
          rotate_left
          · simp only [Act.put, List.setIfInBounds_toArray, List.set_cons_zero, List.set_cons_succ, i64_w, i32_w]
            rfl
          refine take_ (i := 8) (N := (some 36)) (v := ?_) (a' := ?_) #[true, true, true, true, true, true, true, true, true, false, false, false, false, false, false, false] rfl rfl (by kernel_rfl) (fun _ _ _ h => h) (Or.inl ⟨by rfl, ?_⟩) hHeld ?_ ?_
          rotate_left
          · rintro w' ⟨s0, s1⟩
            go_simp
            with_reducible rfl
          rotate_left
          · simp only [Act.put, List.setIfInBounds_toArray, List.set_cons_zero, List.set_cons_succ, i64_w, i32_w]
            rfl
          refine pure_ (i := 9) (N := (some 37)) (v := ?_) (a' := ?_) #[true, true, true, true, true, true, true, true, true, true, false, false, false, false, false, false] rfl rfl (by kernel_rfl) (fun _ _ _ h => h) (Or.inl ⟨by rfl, ?_⟩) ?_ ?_
          rotate_left
          · intro w'
            go_simp
            with_reducible rfl
          rotate_left
          · simp only [Act.put, List.setIfInBounds_toArray, List.set_cons_zero, List.set_cons_succ, i64_w, i32_w]
            rfl
          refine pure_ (i := 10) (N := (some 38)) (v := ?_) (a' := ?_) #[true, true, true, true, true, true, true, true, true, true, true, false, false, false, false, false] rfl rfl (by kernel_rfl) (fun _ _ _ h => h) (Or.inl ⟨by rfl, ?_⟩) ?_ ?_
          rotate_left
          · intro w'
            go_simp
            with_reducible rfl
          rotate_left
          · simp only [Act.put, List.setIfInBounds_toArray, List.set_cons_zero, List.set_cons_succ, i64_w, i32_w]
            rfl
          refine pure_ (i := 11) (N := (some 39)) (v := ?_) (a' := ?_) #[true, true, true, true, true, true, true, true, true, true, true, true, false, false, false, false] rfl rfl (by kernel_rfl) (fun _ _ _ h => h) (Or.inl ⟨by rfl, ?_⟩) ?_ ?_
          rotate_left
          · intro w'
            go_simp
            with_reducible rfl
          rotate_left
          · simp only [Act.put, List.setIfInBounds_toArray, List.set_cons_zero, List.set_cons_succ, i64_w, i32_w]
            rfl
          refine pure_ (i := 12) (N := (some 40)) (v := ?_) (a' := ?_) #[true, true, true, true, true, true, true, true, true, true, true, true, true, false, false, false] rfl rfl (by kernel_rfl) (fun _ _ _ h => h) (Or.inl ⟨by rfl, ?_⟩) ?_ ?_
          rotate_left
          · intro w'
            go_simp
            with_reducible rfl
          rotate_left
          · simp only [Act.put, List.setIfInBounds_toArray, List.set_cons_zero, List.set_cons_succ, i64_w, i32_w]
            rfl
          refine take_ (i := 13) (N := (some 41)) (v := ?_) (a' := ?_) #[true, true, true, true, true, true, true, true, true, true, true, true, true, true, false, false] rfl rfl (by kernel_rfl) (fun _ _ _ h => h) (Or.inl ⟨by rfl, ?_⟩) hHeld ?_ ?_
          rotate_left
          · rintro w' ⟨s0, s1⟩
            go_simp
            with_reducible rfl
          rotate_left
          · simp only [Act.put, List.setIfInBounds_toArray, List.set_cons_zero, List.set_cons_succ, i64_w, i32_w]
            rfl
          refine pure_ (i := 14) (N := (some 42)) (v := ?_) (a' := ?_) #[true, true, true, true, true, true, true, true, true, true, true, true, true, true, true, false] rfl rfl (by kernel_rfl) (fun _ _ _ h => h) (Or.inl ⟨by rfl, ?_⟩) ?_ ?_
          rotate_left
          · intro w'
            go_simp
            with_reducible rfl
          rotate_left
          · simp only [Act.put, List.setIfInBounds_toArray, List.set_cons_zero, List.set_cons_succ, i64_w, i32_w]
            rfl
          refine pure_ (i := 15) (N := (some 43)) (v := ?_) (a' := ?_) #[true, true, true, true, true, true, true, true, true, true, true, true, true, true, true, true] rfl rfl (by kernel_rfl) (fun _ _ _ h => h) (Or.inl ⟨by rfl, ?_⟩) ?_ ?_
          rotate_left
          · intro w'
            go_simp
            with_reducible rfl
          rotate_left
          · simp only [Act.put, List.setIfInBounds_toArray, List.set_cons_zero, List.set_cons_succ, i64_w, i32_w]
            rfl
          refine done_ (by kernel_rfl) ?_
          clear hwp
          have HTK : Aside0 (∀ y ∈ (fch (bk m ys)).take (r1 + 1), y.q ≤ yq) := ⟨take_le (x := ⟨ys, yh, yq⟩) hp (HR.out.up _ hbl) (fun p y e hy => by
            obtain rfl : p = r1 := by omega
            rw [HZ.out] at hy
            cases hy
            first | exact hgt | exact Int.not_lt.1 hgt)⟩
          have far := round_far (cp := 0) (n := 0) (xs := []) HR.out hbl bN1 bS1 HK1.out HZ1.out HG3.out HT3.out HG.out
          have cSr := (World.cell?_of_block (a := ⟨w.heap.size + 1 + 1, 0, none⟩) (far _ (Or.inr (Or.inr rfl))).2.2.2).trans bS1.cell
          have cFr := (World.cell?_of_block (a := ⟨w.heap.size + 1, bk m ys, none⟩) (far _ (Or.inr (Or.inl rfl))).2.2.2).trans (HR.out.ch.cell hbl)
          have fFr := (World.frozen?_of_block (a := ⟨w.heap.size + 1, bk m ys, none⟩) (far _ (Or.inr (Or.inl rfl))).2.2.2).trans (HR.out.ch.frozen (bk m ys))
          clear far
          gi_wp2
          obtain ⟨e1, e2, ⟨e3, e4⟩, e5⟩ := round_end (x := ⟨ys, yh, yq⟩) HR.out hbl hB1.size bN1 bS1 HK1.out HZ1.out HB1.out HF1.out HG3.out HT3.out HO3.out HG.out hp HO.out HD.out HTK.out
          exact ⟨e1.from _, e2, ⟨⟨e3, e4⟩, by rw [List.map_append, List.map_cons, List.map_nil, HY.out]; exact e5⟩, hB1.trans e2⟩
  case done =>
    rintro D zs W hD rfl ⟨⟨⟨bN1, bS1⟩, hR1⟩, hB1⟩ hK
    have cS := bS1.cell
    have c0 := (hB1.cell (p := ⟨B, 0, none⟩) lB).trans hT.cells.1
    have cf := (hB1.frozen (p := ⟨B, 0, none⟩) lB).trans (hT.cells.2.2.2 0)
    gi_wp2
    refine ⟨by simp, .inl ⟨_, _, rfl, run_takeDeferred ((KeepsOthers.setCell W ⟨B, 0, none⟩ _).same D _ hK rfl), ?_⟩⟩
    refine ⟨_, results_none rfl _ _ _, rfl, ?_⟩
    rw [map_norm (fun x hx => hl0 x ((allE_perm hn0 hn5).mem_iff.1 hx))] at hR1
    have hDB : D ≠ B := fun e => by have := Nat.le_trans (by omega : w.heap.size ≤ W0.heap.size) hD; omega
    obtain ⟨vs', fch, hR2⟩ := hR1
    obtain ⟨r1, r2⟩ := hT.renewed hn0 hn5 hm1 hup hB1 hR2 (W' := (W.setCell ⟨B, 0, none⟩ (.slice (some ⟨w.heap.size + 1, 0, none⟩) m m)).putObj D (.deferred none))
      (by
        rw [World.putObj_heap_other (fun e => hDB e.symm)]
        have e := (hB1.block B lB).trans hT.tb
        simp [World.setCell, Array.getElem?_modify, e])
      (fun k hk h => by
        have hkD : k ≠ D := fun e => by
          rcases h with ⟨cs, t, h⟩ | h
          · rw [e, hK] at h; cases h
          · have : w.heap.size ≤ W0.heap.size := by omega
            omega
        rw [World.putObj_heap_other hkD]
        exact Below.heap_setCell _ _ _ _ hk)
      (by simp [World.setCell]) rfl rfl rfl
    exact ⟨⟨_, _, _, _, _, r1⟩, r2⟩
  case stop =>
    rintro D c pre W _ _ h _
    exact h.elim
theorem renew_ok {st : St} {m : Nat} (hm0 : 0 < m) (hm1 : m ≤ 1048576) (hn0 : 0 < st.n) (hn5 : st.n ≤ 1048576) (hl0 : ∀ x ∈ st.L, x.s.size ≤ maxLen) (hlen : st.L.length ≤ 1000) (hup : st.L.Pairwise fun a b => a.q < b.q) : RenewOk st m :=
  fun w S B A bm vs cap D hT => callsIn_wide.1 (renew_in m hm0 hm1 hT hn5 hl0 hlen hn0 hup)
end Go.Proofs.Ytonjhnglcffihaa.Tab
