/- PROVED: what is in a table behind some texts' puts does not hang on their order: plain law, no program. Conditions: those each theorem states. -/
import Derived.Test.YtonjhnglcffihaaTabTwo
set_option linter.unusedVariables false
set_option linter.unusedSimpArgs false
namespace Go.Proofs.Ytonjhnglcffihaa.Tab
open Go Go.RowKit Go.Proofs.Ytonjhnglcffihaa.Print Go.Proofs.YtonjhnglcffihaaW.PrintWords Go.Proofs.YtonjhnglcffihaaW.PrintLast Go.Proofs.YtonjhnglcffihaaW.PrintMore
/-- The first place of a text. -/
def idxE (l : List ByteArray) (t : ByteArray) : Nat := l.findIdx fun u => decide (u = t)
def hdOf (l : List ByteArray) (t : ByteArray) : Int := (idxE l t : Int) + 1
theorem idxE_eq {l : List ByteArray} {t : ByteArray} {i : Nat} (h : l[i]? = some t) (hn : ∀ j u, j < i → l[j]? = some u → u ≠ t) : idxE l t = i := by
  obtain ⟨hl, e⟩ := List.getElem?_eq_some_iff.1 h
  unfold idxE
  rw [List.findIdx_eq hl]
  refine ⟨by simp [e], fun j hj => ?_⟩
  have := hn j l[j] hj (List.getElem?_eq_getElem (by omega))
  simpa using this
theorem idxE_get {l : List ByteArray} {t : ByteArray} (h : t ∈ l) : l[idxE l t]? = some t := by
  have hl : idxE l t < l.length := List.findIdx_lt_length_of_exists ⟨t, h, by simp⟩
  rw [List.getElem?_eq_getElem hl]
  have := List.findIdx_getElem (xs := l) (p := fun u => decide (u = t)) (w := hl)
  exact congrArg some (of_decide_eq_true this)
theorem idxE_lt {l : List ByteArray} {t : ByteArray} (h : t ∈ l) : idxE l t < l.length := (List.getElem?_eq_some_iff.1 (idxE_get h)).1
theorem hdOf_inj {l : List ByteArray} {t u : ByteArray} (ht : t ∈ l) (hu : u ∈ l) (h : hdOf l t = hdOf l u) : t = u := by
  have e : idxE l t = idxE l u := by unfold hdOf at h; omega
  have h1 := idxE_get ht
  rw [e, idxE_get hu] at h1
  exact (Option.some.inj h1).symm
theorem hdOf_pos (l : List ByteArray) (t : ByteArray) : 1 ≤ hdOf l t := by unfold hdOf; omega
theorem hdOf_le {l : List ByteArray} {t : ByteArray} (h : t ∈ l) : hdOf l t ≤ l.length := by have := idxE_lt h; unfold hdOf; omega
/-- A table holds the texts of T, each with its handle, and what X names. -/
structure TI (l : List ByteArray) (T : ByteArray → Prop) (X : ByteArray → Int → Prop) (st : St) : Prop where
  sub : ∀ t, T t → t ∈ l
  of : ∀ y ∈ st.L, (T y.s ∧ y.h = hdOf l y.s) ∨ X y.s y.h
  all : ∀ t, T t → ∃ y ∈ st.L, y.s = t ∧ y.h = hdOf l t
def noX : ByteArray → Int → Prop := fun _ _ => False
theorem TI.new (l : List ByteArray) : TI l (fun _ => False) noX St.new := ⟨fun _ h => h.elim, fun y hy => by simp [St.new] at hy, fun _ h => h.elim⟩
theorem TI.mono {l : List ByteArray} {T T' : ByteArray → Prop} {X : ByteArray → Int → Prop} {st : St} (h : TI l T X st) (e : ∀ t, T t ↔ T' t) : TI l T' X st :=
  ⟨fun t ht => h.sub t ((e t).2 ht), fun y hy => (h.of y hy).imp (fun p => ⟨(e _).1 p.1, p.2⟩) id, fun t ht => h.all t ((e t).2 ht)⟩
theorem find_mem {st : St} {s : ByteArray} {y : En} (h : st.find s = some y) : y ∈ st.L ∧ y.s = s := by
  unfold St.find at h
  exact ⟨List.mem_of_find?_eq_some h, by simpa using List.find?_some h⟩
theorem TI.put {l : List ByteArray} {T : ByteArray → Prop} {X : ByteArray → Int → Prop} {st : St} (h : TI l T X st) {t : ByteArray} (ht : t ∈ l) (hx : ∀ u v, X u v → u ≠ t ∧ v ≠ hdOf l t) : TI l (fun u => T u ∨ u = t) X (st.put t (hdOf l t)) ∧ (∀ y ∈ st.L, y ∈ (st.put t (hdOf l t)).L) := by
  have hsub : ∀ u, T u ∨ u = t → u ∈ l := fun u hu => by
    rcases hu with hu | rfl
    · exact h.sub u hu
    · exact ht
  have same : T t → TI l (fun u => T u ∨ u = t) X st := fun hT => ⟨hsub, fun y hy => (h.of y hy).imp (fun p => ⟨Or.inl p.1, p.2⟩) id, fun u hu => by
    rcases hu with hu | rfl
    · exact h.all u hu
    · exact h.all u hT⟩
  unfold St.put
  rw [if_neg (by have := hdOf_pos l t; omega)]
  split
  · rename_i hc
    refine ⟨same ?_, fun y hy => hy⟩
    rw [Bool.or_eq_true] at hc
    rcases hc with hc | hc
    · obtain ⟨y, hy⟩ := Option.isSome_iff_exists.1 hc
      obtain ⟨hyL, hys⟩ := find_mem hy
      rcases h.of y hyL with p | p
      · exact hys ▸ p.1
      · exact absurd hys (hx _ _ p).1
    · obtain ⟨s, hs⟩ := Option.isSome_iff_exists.1 hc
      obtain ⟨y, hyL, hyh, _⟩ := St.text_some hs
      rcases h.of y hyL with p | p
      · have := hdOf_inj (h.sub _ p.1) ht (p.2.symm.trans hyh)
        exact this ▸ p.1
      · exact absurd hyh (hx _ _ p).2
  · refine ⟨⟨hsub, fun y hy => ?_, fun u hu => ?_⟩, fun y hy => List.mem_append_left _ hy⟩
    · rcases List.mem_append.1 hy with hy | hy
      · exact (h.of y hy).imp (fun p => ⟨Or.inl p.1, p.2⟩) id
      · obtain rfl : y = _ := by simpa using hy
        exact Or.inl ⟨Or.inr rfl, rfl⟩
    · rcases hu with hu | rfl
      · obtain ⟨y, hy, p⟩ := h.all u hu
        exact ⟨y, List.mem_append_left _ hy, p⟩
      · exact ⟨_, List.mem_append_right _ (List.mem_singleton.2 rfl), rfl, rfl⟩
/-- A round of the way back: another text is put, then the text, then the other one is dropped. -/
theorem TI.round {l : List ByteArray} {T : ByteArray → Prop} {st : St} (h : TI l T noX st) {t o : ByteArray} (ht : t ∈ l) (ho : o ≠ t) {x : Int} (hx : 1 ≤ x) (hxl : (l.length : Int) < x) :
    (st.putE o x = 0 → (((st.put o x).put t (hdOf l t)).dropE x = 0 ∧ TI l (fun u => T u ∨ u = t) noX (((st.put o x).put t (hdOf l t)).drop x))) ∧
    (st.putE o x ≠ 0 → TI l (fun u => T u ∨ u = t) noX ((st.put o x).put t (hdOf l t))) := by
  unfold St.putE
  rw [if_neg (by omega)]
  by_cases hc : ((st.find o).isSome || (st.text x).isSome) = true
  · rw [if_pos hc]
    refine ⟨fun e => absurd e (by decide), fun _ => ?_⟩
    have e1 : st.put o x = st := by unfold St.put; rw [if_neg (by omega), if_pos hc]
    rw [e1]
    exact (h.put ht (fun _ _ h => h.elim)).1
  · rw [if_neg hc]
    refine ⟨fun _ => ?_, fun e => absurd rfl e⟩
    have e1 : st.put o x = st.add o x := by unfold St.put; rw [if_neg (by omega), if_neg hc]
    rw [e1]
    have h1 : TI l T (fun u v => u = o ∧ v = x) (st.add o x) := ⟨h.sub, fun y hy => by
      rcases List.mem_append.1 hy with hy | hy
      · exact (h.of y hy).imp id (fun h => h.elim)
      · obtain rfl : y = _ := by simpa using hy
        exact Or.inr ⟨rfl, rfl⟩, fun u hu => by
      obtain ⟨y, hy, p⟩ := h.all u hu
      exact ⟨y, List.mem_append_left _ hy, p⟩⟩
    obtain ⟨h2, hk⟩ := h1.put ht (fun u v p => ⟨p.1 ▸ ho, by rw [p.2]; have := hdOf_le ht; omega⟩)
    have hm := hk _ (show (⟨o, x, st.q⟩ : En) ∈ (st.add o x).L from List.mem_append_right _ (List.mem_singleton.2 rfl))
    generalize (st.add o x).put t (hdOf l t) = s2 at h2 hm ⊢
    have hs : (s2.text x).isSome = true := by
      unfold St.text
      rw [Option.isSome_map, List.find?_isSome]
      exact ⟨_, hm, by simp⟩
    unfold St.dropE St.drop
    rw [if_pos hs, if_pos hs]
    refine ⟨rfl, ⟨h2.sub, fun y hy => ?_, fun u hu => ?_⟩⟩
    · obtain ⟨hyL, hyx⟩ := List.mem_filter.1 hy
      rcases h2.of y hyL with p | p
      · exact Or.inl p
      · rw [p.2] at hyx; simp at hyx
    · obtain ⟨y, hy, p⟩ := h2.all u hu
      refine ⟨y, List.mem_filter.2 ⟨hy, ?_⟩, p⟩
      have := hdOf_le (h2.sub u hu)
      simp only [Bool.not_eq_true', beq_eq_false_iff_ne]
      rw [p.2]; omega
/-- What is found. -/
theorem TI.finds {l : List ByteArray} {T : ByteArray → Prop} {st : St} (h : TI l T noX st) (s : ByteArray) :
    (T s → ((st.find s).map En.h).getD 0 = hdOf l s ∧ (st.find s).isSome = true) ∧ (¬ T s → ((st.find s).map En.h).getD 0 = 0 ∧ (st.find s).isSome = false) := by
  cases hf : st.find s with
  | none =>
    refine ⟨fun hT => ?_, fun _ => ⟨rfl, rfl⟩⟩
    obtain ⟨y, hy, hys, _⟩ := h.all s hT
    exact absurd hys (St.find_none' hf y hy)
  | some y =>
    obtain ⟨hyL, hys⟩ := find_mem hf
    rcases h.of y hyL with p | p
    · exact ⟨fun _ => ⟨by rw [← hys]; exact p.2, rfl⟩, fun hn => absurd (hys ▸ p.1) hn⟩
    · exact p.elim
theorem TI.same {l : List ByteArray} {T : ByteArray → Prop} {st st2 : St} (h : TI l T noX st) (h2 : TI l T noX st2) (s : ByteArray) : ((st.find s).map En.h).getD 0 = ((st2.find s).map En.h).getD 0 ∧ (st.find s).isSome = (st2.find s).isSome := by
  by_cases hT : T s
  · obtain ⟨a1, a2⟩ := (h.finds s).1 hT
    obtain ⟨b1, b2⟩ := (h2.finds s).1 hT
    exact ⟨a1.trans b1.symm, a2.trans b2.symm⟩
  · obtain ⟨a1, a2⟩ := (h.finds s).2 hT
    obtain ⟨b1, b2⟩ := (h2.finds s).2 hT
    exact ⟨a1.trans b1.symm, a2.trans b2.symm⟩
theorem len_sub : ∀ (A B : List En), (A.Pairwise fun x y => x.s ≠ y.s ∧ x.h ≠ y.h) → (∀ y ∈ A, ∃ z ∈ B, z.s = y.s) → A.length ≤ B.length
  | [], B, _, _ => by simp
  | x :: A, B, ho, h => by
    obtain ⟨z, hz, hzs⟩ := h x (by simp)
    obtain ⟨B1, B2, rfl⟩ := List.append_of_mem hz
    have ho' := List.pairwise_cons.1 ho
    have := len_sub A (B1 ++ B2) ho'.2 (fun y hy => by
      obtain ⟨u, hu, hus⟩ := h y (by simp [hy])
      refine ⟨u, ?_, hus⟩
      rcases List.mem_append.1 hu with hu | hu
      · exact List.mem_append_left _ hu
      · rcases List.mem_cons.1 hu with rfl | hu
        · exact absurd (hzs.symm.trans hus) (ho'.1 y hy).1
        · exact List.mem_append_right _ hu)
    simp only [List.length_cons, List.length_append] at this ⊢
    omega
theorem TI.len_le {l : List ByteArray} {T : ByteArray → Prop} {st st2 : St} (o : st.Ok) (h : TI l T noX st) (h2 : TI l T noX st2) : st.L.length ≤ st2.L.length :=
  len_sub _ _ o.once (fun y hy => by
    rcases h.of y hy with p | p
    · obtain ⟨z, hz, hzs, _⟩ := h2.all _ p.1
      exact ⟨z, hz, hzs⟩
    · exact p.elim)
theorem TI.len {l : List ByteArray} {T : ByteArray → Prop} {st st2 : St} (o : st.Ok) (o2 : st2.Ok) (h : TI l T noX st) (h2 : TI l T noX st2) : st.L.length = st2.L.length := Nat.le_antisymm (TI.len_le o h h2) (TI.len_le o2 h2 h)
/-- The bytes of some texts together. -/
def sumE (l : List ByteArray) : Nat := (l.map ByteArray.size).sum
theorem sumE_snoc (l : List ByteArray) (t : ByteArray) : sumE (l ++ [t]) = sumE l + t.size := by simp [sumE]
theorem sumE_mem {l : List ByteArray} {t : ByteArray} (h : t ∈ l) : t.size ≤ sumE l := by
  induction l with
  | nil => simp at h
  | cons u l ih =>
    simp only [sumE, List.map_cons, List.sum_cons] at ih ⊢
    rcases List.mem_cons.1 h with rfl | h
    · omega
    · have := ih h
      omega
theorem sumE_le {l : List ByteArray} {m : Nat} (h : ∀ t ∈ l, t.size ≤ m) : sumE l ≤ l.length * m := by
  induction l with
  | nil => simp [sumE]
  | cons t l ih =>
    have h1 := ih (fun u hu => h u (by simp [hu]))
    have h2 := h t (by simp)
    simp only [sumE, List.map_cons, List.sum_cons, List.length_cons] at h1 ⊢
    rw [Nat.add_mul]
    omega
end Go.Proofs.Ytonjhnglcffihaa.Tab
