/- PROVED: the state of a table of texts, where it lies in memory, and what keeps it there. Conditions: those each theorem states. -/
import Derived.Test.YtonjhnglcffihaaPrintx1
import Derived.Maps.OwnSet
import Derived.Maps.StringElems
import Derived.Maps.AppendAt
import Derived.Deep.AppendLies
import Derived.Deep.OwnRows
import Derived.WalkSpells
set_option linter.unusedVariables false
set_option linter.unusedSimpArgs false
namespace Go.Proofs.Ytonjhnglcffihaa.Tab
open Go Go.RowKit Go.Proofs.Ytonjhnglcffihaa.Print Go.Proofs.YtonjhnglcffihaaW.PrintWords Go.Proofs.YtonjhnglcffihaaW.PrintLast Go.Proofs.YtonjhnglcffihaaW.PrintMore

structure En where
  s : ByteArray
  h : Int
  q : Int
def En.vals (x : En) : List Value := [.string x.s, .int .i64 x.h, .int .i64 x.q]
def flat (c : List En) : List Value := c.flatMap En.vals
theorem flat_length : ∀ c : List En, (flat c).length = c.length * 3
  | [] => rfl
  | x :: c => by
    have := flat_length c
    simp only [flat, List.flatMap_cons, List.length_append, En.vals, List.length_cons, List.length_nil] at this ⊢
    omega
theorem flat_append (a b : List En) : flat (a ++ b) = flat a ++ flat b := by simp [flat]
theorem flat_get : ∀ (c : List En) (i : Nat) (x : En), c[i]? = some x → (flat c)[3 * i]? = some (.string x.s) ∧ (flat c)[3 * i + 1]? = some (.int .i64 x.h) ∧ (flat c)[3 * i + 2]? = some (.int .i64 x.q)
  | [], i, x, h => by simp at h
  | y :: c, 0, x, h => by
    simp at h; subst h
    simp [flat, En.vals]
  | y :: c, i + 1, x, h => by
    have := flat_get c i x (by simpa using h)
    simp only [flat] at this ⊢
    rw [List.flatMap_cons, show y.vals = [Value.string y.s, Value.int .i64 y.h, Value.int .i64 y.q] from rfl]
    have e : ∀ j, (([Value.string y.s, Value.int .i64 y.h, Value.int .i64 y.q] : List Value) ++ c.flatMap En.vals)[j + 3]? = (c.flatMap En.vals)[j]? := fun j => by simp
    exact ⟨by rw [show 3 * (i + 1) = 3 * i + 3 by omega, e]; exact this.1, by rw [show 3 * (i + 1) + 1 = 3 * i + 1 + 3 by omega, e]; exact this.2.1, by rw [show 3 * (i + 1) + 2 = 3 * i + 2 + 3 by omega, e]; exact this.2.2⟩

/-- The hash's steps, as one fold (as both programs reckon it). -/
def hstep (h b : Int) : Int := ((Go.bits .xor .u32 h (b % 4294967296)) * 16777619) % 4294967296
def hashFrom (s : ByteArray) : Nat → Int → Nat → Int
  | 0, h, _ => h
  | d + 1, h, i => hashFrom s d (hstep h (bt s (i : Nat))) (i + 1)
def hsh (s : ByteArray) : Int := hashFrom s s.size 2166136261 0
theorem hashFrom_range (s : ByteArray) : ∀ (d : Nat) (h : Int) (i : Nat), 0 ≤ h → h < 4294967296 → 0 ≤ hashFrom s d h i ∧ hashFrom s d h i < 4294967296
  | 0, h, i, h0, h1 => ⟨h0, h1⟩
  | d + 1, h, i, h0, h1 => hashFrom_range s d _ (i + 1) (by unfold hstep; omega) (by unfold hstep; omega)
theorem hsh_range (s : ByteArray) : 0 ≤ hsh s ∧ hsh s < 4294967296 := hashFrom_range s _ _ _ (by omega) (by omega)
theorem wrap_nat_succ (i : Nat) (h : i < 9223372036854775807) : wrap64 ((i : Int) + 1) = ((i + 1 : Nat) : Int) := by unfold wrap64; omega
theorem hash_l (s : ByteArray) (hs : s.size ≤ maxLen) : ∀ (d i : Nat) (h : Int), i + d = s.size → text_Hash.l0 (d + 1) s h (s.size : Int) (i : Int) = some (hashFrom s d h i) := by
  unfold maxLen at hs
  intro d
  induction d with
  | zero =>
    intro i h hi
    simp only [text_Hash.l0]; rw [if_neg (by omega)]; rfl
  | succ d ih =>
    intro i h hi
    have := ih (i + 1) (hstep h (bt s (i : Nat))) (by omega)
    unfold text_Hash.l0
    rw [if_pos (by omega), if_pos (by omega), if_pos (by omega), wrap_nat_succ i (by omega)]
    exact this
theorem hash_some (s : ByteArray) (hs : s.size ≤ maxLen) : text_Hash.f (s.size + 1) s = some (hsh s) := hash_l s hs s.size 0 _ (by omega)

/-- The bucket of a text among so many. -/
def bk (n : Nat) (s : ByteArray) : Nat := (Go.bits .and .i64 (hsh s) ((n : Int) - 1)).toNat
theorem i64_and_nat (a b : Nat) (ha : a < 4294967296) (hb : b < 4294967296) : Go.bits .and .i64 (a : Int) (b : Int) = ((a &&& b : Nat) : Int) := by
  have key : (BitVec.ofInt 64 (a : Int) &&& BitVec.ofInt 64 (b : Int)).toNat = a &&& b := by
    rw [BitVec.toNat_and, BitVec.ofInt_natCast, BitVec.ofInt_natCast, BitVec.toNat_ofNat, BitVec.toNat_ofNat, Nat.mod_eq_of_lt (by omega), Nat.mod_eq_of_lt (by omega)]
  show IntKind.i64.wrap ((BitVec.ofInt 64 (a : Int) &&& BitVec.ofInt 64 (b : Int)).toNat : Nat) = _
  rw [key, IntKind.wrap_i64]
  have := Nat.and_le_right (n := a) (m := b)
  omega
theorem and_range (a b : Int) (ha : 0 ≤ a) (ha' : a < 4294967296) (hb : 0 ≤ b) (hb' : b < 4294967296) : 0 ≤ Go.bits .and .i64 a b ∧ Go.bits .and .i64 a b ≤ b := by
  obtain ⟨m, rfl⟩ := Int.eq_ofNat_of_zero_le ha
  obtain ⟨k, rfl⟩ := Int.eq_ofNat_of_zero_le hb
  rw [i64_and_nat m k (by omega) (by omega)]
  have := Nat.and_le_right (n := m) (m := k)
  omega
theorem bk_int (n : Nat) (s : ByteArray) (h0 : 0 < n) (h1 : n ≤ 1048576) : Go.bits .and .i64 (hsh s) ((n : Int) - 1) = (bk n s : Int) := by
  have := and_range (hsh s) ((n : Int) - 1) (hsh_range s).1 (hsh_range s).2 (by omega) (by omega)
  unfold bk; omega
theorem bk_lt (n : Nat) (s : ByteArray) (h0 : 0 < n) (h1 : n ≤ 1048576) : bk n s < n := by
  have := and_range (hsh s) ((n : Int) - 1) (hsh_range s).1 (hsh_range s).2 (by omega) (by omega)
  unfold bk; omega
theorem bucket_some (s : ByteArray) (n : Nat) (hs : s.size ≤ maxLen) (h0 : 0 < n) (h1 : n ≤ 1048576) : strtab_bucket.f (s.size + 1) s (n : Int) = some (bk n s : Int) := by
  unfold strtab_bucket.f
  have hr := hsh_range s
  rw [hash_some s hs]
  simp only [Option.bind_some]
  rw [show wrap64 (hsh s) = hsh s by unfold wrap64; omega, show wrap64 ((n : Int) - 1) = (n : Int) - 1 by unfold wrap64; omega, bk_int n s h0 h1]

/-- What a table is: its texts in the order in which they were put, how many buckets, how many puts there were. -/
structure St where
  L : List En
  n : Nat
  q : Nat
def St.chain (st : St) (b : Nat) : List En := st.L.filter fun x => bk st.n x.s == b
structure St.Ok (st : St) : Prop where
  pos : 4 ≤ st.n
  two : ∃ k, st.n = 2 ^ k
  room : st.L.length ≤ st.n
  many : st.L.length ≤ st.q
  few : st.n ≤ 4 + 2 * st.q
  q : st.q ≤ 1000
  len : ∀ x ∈ st.L, x.s.size ≤ maxLen
  wf : ∀ x ∈ st.L, (Lit.int .i64 x.h).wf = true ∧ 1 ≤ x.h
  sq : ∀ x ∈ st.L, 0 ≤ x.q ∧ x.q < st.q
  up : st.L.Pairwise fun x y => x.q < y.q
  once : st.L.Pairwise fun x y => x.s ≠ y.s ∧ x.h ≠ y.h

/-- What the map in a table reads as. -/
structure MapOf (L : List En) (D : DataW Unit) : Prop where
  has : ∀ h : Int, Maps.has D (.int .i64 h) = L.any fun x => x.h == h
  at_ : ∀ x ∈ L, D.atKey (.int .i64 x.h) (.lit (.string [])) = .lit (.string x.s.data.toList)
  none : ∀ h : Int, (∀ x ∈ L, x.h ≠ h) → D.atKey (.int .i64 h) (.lit (.string [])) = .lit (.string [])
  size : Maps.size D = L.length

structure TabW (w : World) (S : Nat → Prop) (B A bm : Nat) (vs : Nat → Value) (cap : Nat) (D : DataW Unit) (st : St) : Prop where
  tb : w.heap[B]? = some (.cells #[.slice (some ⟨A, 0, none⟩) st.n cap, .map (some bm), .int .i64 (st.q : Int)] 61 (0, 0))
  ch : w.rowIs A 63 st.n vs
  map : w.ownsMap Try.prog 3 (plainElem Try.prog 9) bm st.q D
  mo : MapOf st.L D
  row : ∀ i, i < st.n → w.ownsRow 0 65 3 (vs i) (st.chain i).length (flat (st.chain i))
  apart : ∀ i j, i < st.n → j < st.n → i ≠ j → ∀ g, (vs i).ownBlock = some g → (vs j).ownBlock ≠ some g
  inS : S B ∧ S A ∧ S bm ∧ ∀ i, i < st.n → ∀ g, (vs i).ownBlock = some g → S g
  cap_ : st.n ≤ cap ∧ cap ≤ maxLen

def Tab (w : World) (S : Nat → Prop) (B : Nat) (st : St) : Prop := st.Ok ∧ ∃ A bm vs cap D, TabW w S B A bm vs cap D st

/-- Only blocks of S and new ones may have turned. -/
structure Only (S : Nat → Prop) (w w' : World) : Prop where
  os : w'.os = w.os
  tape : w'.tape = w.tape
  output : w'.output = w.output
  size : w.heap.size ≤ w'.heap.size
  block : ∀ k, k < w.heap.size → ¬ S k → w'.heap[k]? = w.heap[k]?
theorem Only.refl (S : Nat → Prop) (w : World) : Only S w w := ⟨rfl, rfl, rfl, Nat.le_refl _, fun _ _ _ => rfl⟩
theorem Only.trans {S : Nat → Prop} {a b c : World} (h : Only S a b) (k : Only S b c) : Only S a c :=
  ⟨k.os.trans h.os, k.tape.trans h.tape, k.output.trans h.output, Nat.le_trans h.size k.size, fun i hi hs => (k.block i (Nat.lt_of_lt_of_le hi h.size) hs).trans (h.block i hi hs)⟩
theorem Only.of_below {S : Nat → Prop} {w w' : World} (h : Below w.heap.size w w') : Only S w w' := ⟨h.os, h.tape, h.output, h.size, fun k hk _ => h.block k hk⟩
theorem Only.below {S : Nat → Prop} {w w' : World} {N : Nat} (h : Only S w w') (hN : ∀ k, S k → N ≤ k) (hw : N ≤ w.heap.size) : Below N w w' :=
  ⟨h.os, h.tape, h.output, h.size, fun k hk => h.block k (by omega) (fun hs => by have := hN k hs; omega)⟩
theorem Only.grown {S : Nat → Prop} {w w' : World} {row : Option Nat} (hg : w.grownBy w' row) (hr : ∀ k, row = some k → S k) : Only S w w' :=
  ⟨hg.os, hg.tape, hg.output, hg.size, fun k hk hs => hg.block k hk (fun e => hs (hr k e.symm))⟩
theorem Only.setCell {S : Nat → Prop} {w : World} (a : Addr) (hS : S a.block) (u : Value) : Only S w (w.setCell a u) :=
  ⟨rfl, rfl, rfl, by simp [World.setCell], fun k _ hs => Below.heap_setCell _ _ _ _ (fun e => hs (e ▸ hS))⟩
/-- The old blocks of a table, and those that a call has made. -/
def ext (S : Nat → Prop) (w w' : World) : Nat → Prop := fun k => S k ∨ (w.heap.size ≤ k ∧ k < w'.heap.size)

theorem TabW.lts {w : World} {S : Nat → Prop} {B A bm cap : Nat} {vs : Nat → Value} {D : DataW Unit} {st : St} (h : TabW w S B A bm vs cap D st) :
    B < w.heap.size ∧ A < w.heap.size ∧ bm < w.heap.size ∧ ∀ i, i < st.n → ∀ g, (vs i).ownBlock = some g → g < w.heap.size :=
  ⟨(Array.getElem?_eq_some_iff.1 h.tb).1, h.ch.lt, h.map.lt, fun i hi g hg => ((h.row i hi).lt g hg).2⟩
theorem TabW.of_blocks {w w' : World} {S S' : Nat → Prop} {B A bm cap : Nat} {vs : Nat → Value} {D : DataW Unit} {st : St} (h : TabW w S B A bm vs cap D st) (hs : ∀ k, k < w.heap.size → S k → S' k)
    (hb : ∀ k, k < w.heap.size → S k → w'.heap[k]? = w.heap[k]?) : TabW w' S' B A bm vs cap D st := by
  obtain ⟨l1, l2, l3, l4⟩ := h.lts
  obtain ⟨s1, s2, s3, s4⟩ := h.inS
  refine ⟨(hb B l1 s1).trans h.tb, h.ch.of_block (hb A l2 s2), ?_, h.mo, fun i hi => ?_, h.apart, ⟨hs _ l1 s1, hs _ l2 s2, hs _ l3 s3, fun i hi g hg => hs _ (l4 i hi g hg) (s4 i hi g hg)⟩, h.cap_⟩
  · obtain ⟨es, clock, e, r⟩ := h.map
    exact ⟨es, clock, (hb bm l3 s3).trans e, r⟩
  · have hr := h.row i hi
    rcases hv : (vs i).ownBlock with _ | g
    · refine ⟨hr.1, ?_⟩
      rcases hr.2 with h2 | ⟨g, cap', cur, e, _⟩
      · exact .inl h2
      · rw [e] at hv; simp [Value.ownBlock] at hv
    · refine ⟨hr.1, ?_⟩
      rcases hr.2 with h2 | ⟨g', cap', cur, e, h3, h4, h5⟩
      · exact .inl h2
      · have : g' = g := by rw [e] at hv; simpa [Value.ownBlock] using hv
        subst this
        exact .inr ⟨g', cap', cur, e, h3, (hb g' (l4 i hi _ hv) (s4 i hi _ hv)).trans h4, h5⟩
theorem TabW.below {w w' : World} {S : Nat → Prop} {B A bm cap : Nat} {vs : Nat → Value} {D : DataW Unit} {st : St} (h : TabW w S B A bm vs cap D st) (hb : Below w.heap.size w w') : TabW w' S B A bm vs cap D st :=
  h.of_blocks (fun _ _ hs => hs) (fun k hk _ => hb.block k hk)
theorem Tab.below {w w' : World} {S : Nat → Prop} {B : Nat} {st : St} (h : Tab w S B st) (hb : Below w.heap.size w w') : Tab w' S B st := by
  obtain ⟨o, A, bm, vs, cap, D, h⟩ := h
  exact ⟨o, A, bm, vs, cap, D, h.below hb⟩
theorem Tab.mono {w : World} {S S' : Nat → Prop} {B : Nat} {st : St} (h : Tab w S B st) (hs : ∀ k, k < w.heap.size → S k → S' k) : Tab w S' B st := by
  obtain ⟨o, A, bm, vs, cap, D, h⟩ := h
  exact ⟨o, A, bm, vs, cap, D, h.of_blocks hs (fun _ _ _ => rfl)⟩
/-- A table abides what another one's doings turn. -/
theorem Tab.only {w w' : World} {S R : Nat → Prop} {B : Nat} {st : St} (h : Tab w S B st) (ho : Only R w w') (hd : ∀ k, S k → ¬ R k) : Tab w' S B st := by
  obtain ⟨o, A, bm, vs, cap, D, h⟩ := h
  exact ⟨o, A, bm, vs, cap, D, h.of_blocks (fun _ _ hs => hs) (fun k hk hs => ho.block k hk (hd k hs))⟩
theorem TabW.cells {w : World} {S : Nat → Prop} {B A bm cap : Nat} {vs : Nat → Value} {D : DataW Unit} {st : St} (h : TabW w S B A bm vs cap D st) :
    w.cell? ⟨B, 0, none⟩ = some (.slice (some ⟨A, 0, none⟩) st.n cap) ∧ w.cell? ⟨B, 1, none⟩ = some (.map (some bm)) ∧ w.cell? ⟨B, 2, none⟩ = some (.int .i64 (st.q : Int)) ∧ (∀ i, w.frozen? ⟨B, i, none⟩ = false) := by
  refine ⟨?_, ?_, ?_, fun i => ?_⟩ <;> simp [World.cell?, World.frozen?, h.tb]
theorem TabW.off {w : World} {S : Nat → Prop} {B A bm cap : Nat} {vs : Nat → Value} {D : DataW Unit} {st : St} (h : TabW w S B A bm vs cap D st) :
    A ≠ B ∧ bm ≠ B ∧ bm ≠ A ∧ ∀ i, i < st.n → (vs i).ownBlock ≠ some A ∧ (vs i).ownBlock ≠ some B ∧ (vs i).ownBlock ≠ some bm := by
  obtain ⟨c, hA, _⟩ := h.ch
  obtain ⟨es, clock, hm, _⟩ := h.map
  have hB := h.tb
  refine ⟨fun e => by subst e; rw [hA] at hB; simp at hB, fun e => by subst e; rw [hm] at hB; simp at hB, fun e => by subst e; rw [hm] at hA; simp at hA, fun i hi => ?_⟩
  rcases (h.row i hi).2 with ⟨e, _⟩ | ⟨g, cp, cur, e, _, hg, _⟩
  · rw [e]; simp [Value.ownBlock]
  · rw [e]
    simp only [Value.ownBlock, ne_eq, Option.some.injEq]
    exact ⟨fun e => by subst e; rw [hA] at hg; simp at hg, fun e => by subst e; rw [hB] at hg; simp at hg, fun e => by subst e; rw [hm] at hg; simp at hg⟩
theorem info65 : (Try.prog.info? 65).map (fun i => (i.zero, i.size, i.bytes)) = some (some (.agg #[.string ByteArray.empty, .int .i64 0, .int .i64 0]), 3, 32) := by kernel_rfl
theorem far3 {w w3 : World} {o : Obj} {row : Option Nat} {A : Nat} (hg : (w.drew.alloc o).grownBy w3 row) (hne : row ≠ some A) (ha : A < w.heap.size) : w3.heap[A]? = w.heap[A]? :=
  (hg.block A (by show A < (w.drew.alloc o).heap.size; simp; omega) (fun e => hne e.symm)).trans (Below.heap_alloc w.drew o A ha)
theorem row_of_block {w w' : World} {base e size n : Nat} {v : Value} {xs : List Value} (h : w.ownsRow base e size v n xs) (hb : ∀ g, v.ownBlock = some g → w'.heap[g]? = w.heap[g]?) : w'.ownsRow base e size v n xs := by
  refine ⟨h.1, ?_⟩
  rcases h.2 with h2 | ⟨g, cap', cur, e, h3, h4, h5⟩
  · exact .inl h2
  · exact .inr ⟨g, cap', cur, e, h3, (hb g (by rw [e]; rfl)).trans h4, h5⟩
theorem St.chain_add (st : St) (x : En) (i : Nat) : (St.mk (st.L ++ [x]) st.n (st.q + 1)).chain i = if i = bk st.n x.s then st.chain i ++ [x] else st.chain i := by
  unfold St.chain
  simp only [List.filter_append]
  by_cases h : i = bk st.n x.s
  · rw [if_pos h]; simp [h]
  · rw [if_neg h]
    have : (bk st.n x.s == i) = false := beq_eq_false_iff_ne.2 (fun e => h e.symm)
    simp [this]
/-- The table behind the three stores of Put. -/
theorem TabW.added {w2 w3 w5 : World} {S : Nat → Prop} {B A bm cap g cp : Nat} {vs : Nat → Value} {D D5 : DataW Unit} {st : St} {x : En} {o : Obj} (h2 : TabW w2 S B A bm vs cap D st) (hb : bk st.n x.s < st.n)
    (hg3 : (w2.drew.alloc o).grownBy w3 (vs (bk st.n x.s)).ownBlock)
    (ho3 : w3.ownsRow 0 65 3 (.slice (some ⟨g, 0, none⟩) ((st.chain (bk st.n x.s)).length + 1) cp) ((st.chain (bk st.n x.s)).length + 1) (flat (st.chain (bk st.n x.s)) ++ x.vals))
    (ht3 : (vs (bk st.n x.s)).ownBlock = some g ∨ g = (w2.drew.alloc o).heap.size) (hl3 : g < w3.heap.size)
    (ho5 : w5.ownsMap Try.prog 3 (plainElem Try.prog 9) bm (st.q + 1) D5) (hm5 : MapOf (st.L ++ [x]) D5)
    (hg5 : (w3.setCell ⟨A, bk st.n x.s, none⟩ (.slice (some ⟨g, 0, none⟩) ((st.chain (bk st.n x.s)).length + 1) cp)).grownBy w5 (some bm)) :
    TabW (w5.setCell ⟨B, 2, none⟩ (.int .i64 ((st.q + 1 : Nat) : Int))) (ext S w2 (w5.setCell ⟨B, 2, none⟩ (.int .i64 ((st.q + 1 : Nat) : Int)))) B A bm (fun i => if i = bk st.n x.s then .slice (some ⟨g, 0, none⟩) ((st.chain (bk st.n x.s)).length + 1) cp else vs i) cap D5 ⟨st.L ++ [x], st.n, st.q + 1⟩ ∧
    Only S w2 (w5.setCell ⟨B, 2, none⟩ (.int .i64 ((st.q + 1 : Nat) : Int))) := by
  obtain ⟨nAB, nmB, nmA, hoff⟩ := h2.off
  obtain ⟨lB, lA, lm, lr⟩ := h2.lts
  obtain ⟨sB, sA, sm, sr⟩ := h2.inS
  obtain ⟨oA, oB, om⟩ := hoff _ hb
  have hz : w2.heap.size + 1 = (w2.drew.alloc o).heap.size := by show _ = (w2.alloc o).heap.size; simp
  have z3 := hg3.size
  generalize hv : Value.slice (some ⟨g, 0, none⟩) ((st.chain (bk st.n x.s)).length + 1) cp = v' at *
  have hvb : v'.ownBlock = some g := by rw [← hv]; rfl
  have z4 : (w3.setCell ⟨A, bk st.n x.s, none⟩ v').heap.size = w3.heap.size := by simp [World.setCell]
  have z5 := hg5.size
  rw [z4] at z5
  generalize hw6 : w5.setCell ⟨B, 2, none⟩ (.int .i64 ((st.q + 1 : Nat) : Int)) = w6
  have z6 : w6.heap.size = w5.heap.size := by rw [← hw6]; simp [World.setCell]
  have s2 : ∀ k, k < w2.heap.size → (vs (bk st.n x.s)).ownBlock ≠ some k → w3.heap[k]? = w2.heap[k]? := fun k hk hn => far3 hg3 hn hk
  have s4 : ∀ k, k < w3.heap.size → k ≠ A → k ≠ bm → w5.heap[k]? = w3.heap[k]? := fun k hk h1 h2 => (hg5.block k (by rw [z4]; exact hk) (fun e => h2 (by simpa using e))).trans (Below.heap_setCell _ _ _ _ h1)
  have s6 : ∀ k, k ≠ B → w6.heap[k]? = w5.heap[k]? := fun k h1 => by rw [← hw6]; exact Below.heap_setCell _ _ _ _ h1
  have sA6 : w6.rowIs A 63 st.n (fun j => if j = bk st.n x.s then v' else vs j) := by
    have r3 : w3.rowIs A 63 st.n vs := h2.ch.of_block (s2 A lA oA)
    have r4 := r3.set (bk st.n x.s) v'
    have r5 := r4.of_block (hg5.block A (by rw [z4]; omega) (by simpa using nmA.symm))
    exact r5.of_block (s6 A nAB)
  have sgA : g ≠ A := by rcases ht3 with e | e
                         · rintro rfl; exact oA e
                         · omega
  have sgB : g ≠ B := by rcases ht3 with e | e
                         · rintro rfl; exact oB e
                         · omega
  have sgm : g ≠ bm := by rcases ht3 with e | e
                          · rintro rfl; exact om e
                          · omega
  refine ⟨⟨?_, sA6, ?_, hm5, fun i hi => ?_, fun i j hi hj hne k hk => ?_, ⟨Or.inl sB, Or.inl sA, Or.inl sm, fun i hi k hk => ?_⟩, h2.cap_⟩, ?_⟩
  · have e5 : w5.heap[B]? = w2.heap[B]? := (s4 B (by omega) nAB.symm nmB.symm).trans (s2 B lB oB)
    rw [h2.tb] at e5
    rw [← hw6]
    simp [World.setCell, Array.getElem?_modify, e5]
  · obtain ⟨es, clock, e, r⟩ := ho5
    exact ⟨es, clock, (s6 bm nmB).trans e, r⟩
  · dsimp only at hi ⊢
    rw [St.chain_add]
    by_cases hib : i = bk st.n x.s
    · subst hib
      rw [if_pos rfl, if_pos rfl, List.length_append, flat_append]
      refine row_of_block ?_ (w := w3) (fun k hk => ?_)
      · simpa [flat] using ho3
      · rw [hvb] at hk
        obtain rfl : g = k := by simpa using hk
        exact (s6 g sgB).trans (s4 g hl3 sgA sgm)
    · rw [if_neg hib, if_neg hib]
      refine row_of_block (h2.row i hi) (fun k hk => ?_)
      obtain ⟨a1, a2, a3⟩ := hoff i hi
      have lk := lr i hi k hk
      have e1 := s2 k lk (h2.apart i _ hi hb hib k hk)
      exact (s6 k (fun e => a2 (e ▸ hk))).trans ((s4 k (by omega) (fun e => a1 (e ▸ hk)) (fun e => a3 (e ▸ hk))).trans e1)
  · dsimp only at hi hj hk ⊢
    by_cases hib : i = bk st.n x.s
    · rw [if_pos hib] at hk
      rw [if_neg (fun e => hne (hib.trans e.symm))]
      rw [hvb] at hk
      obtain rfl : g = k := by simpa using hk
      rcases ht3 with e | e
      · exact h2.apart _ _ hb hj (fun e' => hne (hib.trans e')) _ e
      · intro h; have := lr j hj _ h; omega
    · rw [if_neg hib] at hk
      by_cases hjb : j = bk st.n x.s
      · rw [if_pos hjb, hvb]
        intro h
        obtain rfl : g = k := by simpa using h
        rcases ht3 with e | e
        · exact h2.apart _ _ hb hi (fun e' => hib e'.symm) _ e hk
        · have := lr i hi _ hk; omega
      · rw [if_neg hjb]
        exact h2.apart i j hi hj hne k hk
  · dsimp only at hi hk
    by_cases hib : i = bk st.n x.s
    · rw [if_pos hib, hvb] at hk
      obtain rfl : g = k := by simpa using hk
      rcases ht3 with e | e
      · exact Or.inl (sr _ hb _ e)
      · exact Or.inr ⟨by omega, by omega⟩
    · rw [if_neg hib] at hk
      exact Or.inl (sr i hi k hk)
  · refine ⟨?_, ?_, ?_, by omega, fun k hk hs => ?_⟩
    · rw [← hw6]; exact hg5.os.trans (hg3.os)
    · rw [← hw6]; exact hg5.tape.trans (hg3.tape)
    · rw [← hw6]; exact hg5.output.trans (hg3.output)
    · exact (s6 k (fun e => hs (e ▸ sB))).trans ((s4 k (by omega) (fun e => hs (e ▸ sA)) (fun e => hs (e ▸ sm))).trans (s2 k hk (fun e => hs (sr _ hb k e))))
/-- What the map reads as behind a put. -/
theorem MapOf.add {L : List En} {D : DataW Unit} (m : MapOf L D) (ht : Maps.Tidy D) (x : En) (hw : (Lit.int .i64 x.h).wf = true) (hn : ∀ y ∈ L, y.h ≠ x.h) : MapOf (L ++ [x]) (D.put (.int .i64 x.h) (.lit (.string x.s.data.toList))) := by
  have hk : WideAt.IsKeyLit (Lit.int .i64 x.h) := by simp [WideAt.IsKeyLit]
  have hne : ∀ h : Int, h ≠ x.h → (Lit.int .i64 h) ≠ (Lit.int .i64 x.h) := fun h e e2 => e (by injection e2)
  have hno : Maps.has D (.int .i64 x.h) = false := by rw [m.has, List.any_eq_false]; intro y hy; simpa using hn y hy
  refine ⟨fun h => ?_, fun y hy => ?_, fun h hh => ?_, ?_⟩
  · rw [List.any_append]
    by_cases e : h = x.h
    · subst e; rw [Maps.has_put_same ht.isMap hk]; simp
    · rw [Maps.has_put_other (hne h e), m.has]
      have : (x.h == h) = false := beq_eq_false_iff_ne.2 (fun e' => e e'.symm)
      simp [this]
  · rcases List.mem_append.1 hy with hy | hy
    · rw [Maps.atKey_put_other (hne _ (hn y hy))]; exact m.at_ y hy
    · obtain rfl : y = x := by simpa using hy
      exact Maps.atKey_put_same ht.isMap hk _ _
  · rw [Maps.atKey_put_other (hne h (fun e => hh x (by simp) e.symm))]
    exact m.none h (fun y hy => hh y (by simp [hy]))
  · rw [Maps.size_put ht, hno, m.size]; simp
theorem Only.drew {S : Nat → Prop} {w w' : World} (h : Only S w w') : Only S w w'.drew := ⟨h.os, h.tape, h.output, h.size, h.block⟩
theorem Only.early {S : Nat → Prop} {w w1 w2 : World} (hb : Below w.heap.size w w1) (h : Only S w1 w2) : Only S w w2 := (Only.of_below hb).trans h
theorem ext_early {S : Nat → Prop} {w w1 w2 : World} (hb : w.heap.size ≤ w1.heap.size) : ∀ k, ext S w1 w2 k → ext S w w2 k := fun k hk => hk.imp id (fun h => ⟨by omega, h.2⟩)
/-- One chain is another now, and the map. -/
theorem TabW.step {w2 w6 : World} {S : Nat → Prop} {B A bm cap g b : Nat} {vs : Nat → Value} {v' : Value} {D D' : DataW Unit} {st st' : St} (h2 : TabW w2 S B A bm vs cap D st) (hb : b < st.n) (hn : st'.n = st.n)
    (hB6 : w6.heap[B]? = some (.cells #[.slice (some ⟨A, 0, none⟩) st.n cap, .map (some bm), .int .i64 (st'.q : Int)] 61 (0, 0)))
    (hA6 : w6.rowIs A 63 st.n (fun j => if j = b then v' else vs j))
    (ho6 : w6.ownsMap Try.prog 3 (plainElem Try.prog 9) bm st'.q D') (hm6 : MapOf st'.L D')
    (hvb : v'.ownBlock = some g) (hg6 : w6.ownsRow 0 65 3 v' (st'.chain b).length (flat (st'.chain b))) (ht : (vs b).ownBlock = some g ∨ w2.heap.size ≤ g)
    (hc : ∀ i, i < st.n → i ≠ b → st'.chain i = st.chain i)
    (ho : ∀ k, k < w2.heap.size → k ≠ A → k ≠ B → k ≠ bm → (vs b).ownBlock ≠ some k → w6.heap[k]? = w2.heap[k]?)
    (hsz : w2.heap.size ≤ w6.heap.size) (e1 : w6.os = w2.os) (e2 : w6.tape = w2.tape) (e3 : w6.output = w2.output) :
    TabW w6 (ext S w2 w6) B A bm (fun j => if j = b then v' else vs j) cap D' st' ∧ Only S w2 w6 := by
  obtain ⟨nAB, nmB, nmA, hoff⟩ := h2.off
  obtain ⟨lB, lA, lm, lr⟩ := h2.lts
  obtain ⟨sB, sA, sm, sr⟩ := h2.inS
  have lg : g < w6.heap.size := (hg6.lt g hvb).2
  refine ⟨⟨by rw [hn]; exact hB6, by rw [hn]; exact hA6, ho6, hm6, fun i hi => ?_, fun i j hi hj hne k hk => ?_, ⟨Or.inl sB, Or.inl sA, Or.inl sm, fun i hi k hk => ?_⟩, by rw [hn]; exact h2.cap_⟩, ⟨e1, e2, e3, hsz, fun k hk hs => ?_⟩⟩
  · rw [hn] at hi
    try dsimp only
    by_cases hib : i = b
    · subst hib
      rw [if_pos rfl]
      exact hg6
    · rw [if_neg hib, hc i hi hib]
      refine row_of_block (h2.row i hi) (fun k hk => ?_)
      obtain ⟨a1, a2, a3⟩ := hoff i hi
      exact ho k (lr i hi k hk) (fun e => a1 (e ▸ hk)) (fun e => a2 (e ▸ hk)) (fun e => a3 (e ▸ hk)) (h2.apart i b hi hb hib k hk)
  · rw [hn] at hi hj
    try dsimp only at hk ⊢
    by_cases hib : i = b
    · rw [if_pos hib] at hk
      rw [if_neg (fun e => hne (hib.trans e.symm))]
      rw [hvb] at hk
      obtain rfl : g = k := by simpa using hk
      rcases ht with e | e
      · exact h2.apart _ _ hb hj (fun e' => hne (hib.trans e')) _ e
      · intro h; have := lr j hj _ h; omega
    · rw [if_neg hib] at hk
      by_cases hjb : j = b
      · rw [if_pos hjb, hvb]
        intro h
        obtain rfl : g = k := by simpa using h
        rcases ht with e | e
        · exact h2.apart _ _ hb hi (fun e' => hib e'.symm) _ e hk
        · have := lr i hi _ hk; omega
      · rw [if_neg hjb]
        exact h2.apart i j hi hj hne k hk
  · rw [hn] at hi
    try dsimp only at hk
    by_cases hib : i = b
    · rw [if_pos hib, hvb] at hk
      obtain rfl : g = k := by simpa using hk
      rcases ht with e | e
      · exact Or.inl (sr _ hb _ e)
      · exact Or.inr ⟨by omega, by omega⟩
    · rw [if_neg hib] at hk
      exact Or.inl (sr i hi k hk)
  · exact ho k hk (fun e => hs (e ▸ sA)) (fun e => hs (e ▸ sB)) (fun e => hs (e ▸ sm)) (fun e => hs (sr _ hb k e))
theorem MapOf.del {L : List En} {D : DataW Unit} (m : MapOf L D) (ht : Maps.Tidy D) (x : Int) (hx : ∃ y ∈ L, y.h = x) (ho : L.Pairwise fun x y => x.s ≠ y.s ∧ x.h ≠ y.h) : MapOf (L.filter fun y => !(y.h == x)) (D.del (.int .i64 x)) := by
  have hne : ∀ h : Int, h ≠ x → (Lit.int .i64 h) ≠ (Lit.int .i64 x) := fun h e e2 => e (by injection e2)
  have hyes : Maps.has D (.int .i64 x) = true := by
    rw [m.has, List.any_eq_true]
    obtain ⟨y, hy, e⟩ := hx
    exact ⟨y, hy, by simp [e]⟩
  refine ⟨fun h => ?_, fun y hy => ?_, fun h hh => ?_, ?_⟩
  · by_cases e : h = x
    · subst e; rw [Maps.has_del_same]
      symm
      rw [List.any_eq_false]
      intro y hy
      simp only [List.mem_filter] at hy
      simpa using hy.2
    · rw [Maps.has_del_other (hne h e), m.has, List.any_filter]
      congr 1
      funext y
      by_cases e2 : y.h = h
      · subst e2; simp [e]
      · simp [e2]
  · simp only [List.mem_filter] at hy
    rw [Maps.atKey_del_other (hne _ (by simpa using hy.2))]
    exact m.at_ y hy.1
  · by_cases e : h = x
    · subst e; exact Maps.atKey_del_same _
    · rw [Maps.atKey_del_other (hne h e)]
      exact m.none h (fun y hy e2 => hh y (by rw [List.mem_filter]; exact ⟨hy, by simp [e2, e]⟩) e2)
  · have h1 := Maps.size_del (k := .int .i64 x) ht
    rw [hyes, m.size] at h1
    have h2 : (L.filter fun y => !(y.h == x)).length + 1 = L.length := by
      clear h1 hyes hne ht m
      obtain ⟨y, hy, e⟩ := hx
      induction L with
      | nil => simp at hy
      | cons z L ih =>
        have ho' := List.pairwise_cons.1 ho
        by_cases ez : z.h = x
        · have hall : L.filter (fun y => !(y.h == x)) = L := List.filter_eq_self.2 (fun u hu => by simpa using fun e3 => (ho'.1 u hu).2 (by rw [ez, e3]))
          rw [List.filter_cons_of_neg (by simp [ez]), hall]; simp
        · have hyL : y ∈ L := by
            rcases List.mem_cons.1 hy with rfl | h
            · exact absurd e ez
            · exact h
          have := ih ho'.2 hyL
          rw [List.filter_cons_of_pos (by simp [ez])]; simp; omega
    simp at h1
    omega
/-- What renew does to a table whose texts are so many. -/
def RenewOk (st : St) (m : Nat) : Prop := ∀ (w : World) (S : Nat → Prop) (B A bm : Nat) (vs : Nat → Value) (cap : Nat) (D : DataW Unit), TabW w S B A bm vs cap D st →
  Calls Try.prog 33 #[.pointer (some ⟨B, 0, none⟩), .int .i64 ((m : Nat) : Int)] w fun e w' => e = .returned (.tuple #[]) ∧ (∃ A' bm' vs' cap' D', TabW w' (ext S w w') B A' bm' vs' cap' D' ⟨st.L, m, st.q⟩) ∧ Only S w w'
def St.add (st : St) (s : ByteArray) (x : Int) : St := ⟨st.L ++ [⟨s, x, st.q⟩], if st.n < st.L.length + 1 then 2 * st.n else st.n, st.q + 1⟩
theorem St.Ok.added {st : St} (o : st.Ok) {s : ByteArray} {x : Int} (hs : s.size ≤ maxLen) (hw : (Lit.int .i64 x).wf = true) (hx : 1 ≤ x) (hf : ∀ y ∈ st.L, y.s ≠ s) (ht : ∀ y ∈ st.L, y.h ≠ x) (hq : st.q + 1 ≤ 1000) : (st.add s x).Ok := by
  obtain ⟨a1, ⟨k, a2⟩, a3, a4, a5, a6, a7, a8, a9, a10, a11⟩ := o
  have hl : (st.L ++ [(⟨s, x, st.q⟩ : En)]).length = st.L.length + 1 := by simp
  unfold St.add
  refine ⟨?_, ?_, ?_, ?_, ?_, hq, ?_, ?_, ?_, ?_, ?_⟩
  · dsimp only; split <;> omega
  · dsimp only; split
    · exact ⟨k + 1, by rw [a2, Nat.pow_succ]; omega⟩
    · exact ⟨k, a2⟩
  · dsimp only; rw [hl]; split <;> omega
  · dsimp only; rw [hl]; omega
  · dsimp only; split <;> omega
  · intro y hy; rcases List.mem_append.1 hy with hy | hy
    · exact a7 y hy
    · obtain rfl : y = _ := by simpa using hy
      exact hs
  · intro y hy; rcases List.mem_append.1 hy with hy | hy
    · exact a8 y hy
    · obtain rfl : y = _ := by simpa using hy
      exact ⟨hw, hx⟩
  · intro y hy; rcases List.mem_append.1 hy with hy | hy
    · have := a9 y hy; dsimp only; omega
    · obtain rfl : y = _ := by simpa using hy
      dsimp only; omega
  · refine List.pairwise_append.2 ⟨a10, by simp, fun y hy z hz => ?_⟩
    obtain rfl : z = _ := by simpa using hz
    exact (a9 y hy).2
  · refine List.pairwise_append.2 ⟨a11, by simp, fun y hy z hz => ?_⟩
    obtain rfl : z = _ := by simpa using hz
    exact ⟨hf y hy, ht y hy⟩
theorem only_ext {S : Nat → Prop} {w w1 w2 : World} (h : Only S w w1) (k : Only (ext S w w1) w1 w2) : Only S w w2 :=
  ⟨k.os.trans h.os, k.tape.trans h.tape, k.output.trans h.output, Nat.le_trans h.size k.size, fun i hi hs => (k.block i (Nat.lt_of_lt_of_le hi h.size) (fun e => by rcases e with e | e; exact hs e; omega)).trans (h.block i hi hs)⟩
theorem ext_ext {S : Nat → Prop} {w w1 w2 : World} (h1 : w.heap.size ≤ w1.heap.size) (h2 : w1.heap.size ≤ w2.heap.size) : ∀ k, ext (ext S w w1) w1 w2 k → ext S w w2 k := by
  intro k hk
  rcases hk with (hk | hk) | hk
  · exact Or.inl hk
  · exact Or.inr ⟨hk.1, by omega⟩
  · exact Or.inr ⟨by omega, hk.2⟩
theorem ext_mono {S S' : Nat → Prop} {w w' : World} (h : ∀ k, S k → S' k) : ∀ k, ext S w w' k → ext S' w w' k := fun k hk => hk.imp (h k) id
theorem TabW.mono {w : World} {S S' : Nat → Prop} {B A bm cap : Nat} {vs : Nat → Value} {D : DataW Unit} {st : St} (h : TabW w S B A bm vs cap D st) (hs : ∀ k, k < w.heap.size → S k → S' k) : TabW w S' B A bm vs cap D st := h.of_blocks hs (fun _ _ _ => rfl)
end Go.Proofs.Ytonjhnglcffihaa.Tab
