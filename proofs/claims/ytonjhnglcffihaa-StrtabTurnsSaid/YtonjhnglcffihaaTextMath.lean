/- Plain lemmas on bytes, cells of eight bytes, and lists; no program. -/
import Derived.Test.YtonjhnglcffihaaWMore
import Derived.Laws.BitsAllLaws
import Derived.Laws.CopyRow
import Derived.Deep.WholeRow
set_option linter.unusedVariables false
set_option linter.unusedSimpArgs false
namespace Go.Proofs.Ytonjhnglcffihaa.TextMath
open Go.RowKit Go.Proofs.YtonjhnglcffihaaW.PrintWords Go.Proofs.YtonjhnglcffihaaW.PrintLast Go.Proofs.YtonjhnglcffihaaW.PrintMore

/-- Eight bytes, the lowest first, as one number. -/
def cellSum (b0 b1 b2 b3 b4 b5 b6 b7 : Int) : Int := b0 + 256 * b1 + 65536 * b2 + 16777216 * b3 + 4294967296 * b4 + 1099511627776 * b5 + 281474976710656 * b6 + 72057594037927936 * b7
def cellAt (s : ByteArray) (p : Nat) : Int := wrap64 (cellSum (bt s (p : Nat)) (bt s (p + 1 : Nat)) (bt s (p + 2 : Nat)) (bt s (p + 3 : Nat)) (bt s (p + 4 : Nat)) (bt s (p + 5 : Nat)) (bt s (p + 6 : Nat)) (bt s (p + 7 : Nat)))
def packN (s : ByteArray) (n : Nat) : List Int := (List.range n).map fun j => cellAt s (8 * j)
def packA (s : ByteArray) : List Int := packN s ((s.size + 7) / 8)

theorem packN_succ (s : ByteArray) (n : Nat) : packN s (n + 1) = packN s n ++ [cellAt s (8 * n)] := by simp [packN, List.range_succ]
theorem packN_length (s : ByteArray) (n : Nat) : (packN s n).length = n := by simp [packN]

def zeros8 : Array Value := #[.int .u8 0, .int .u8 0, .int .u8 0, .int .u8 0, .int .u8 0, .int .u8 0, .int .u8 0, .int .u8 0]
def eight (b0 b1 b2 b3 b4 b5 b6 b7 : Int) : Array Value := #[.int .u8 b0, .int .u8 b1, .int .u8 b2, .int .u8 b3, .int .u8 b4, .int .u8 b5, .int .u8 b6, .int .u8 b7]
def part8 (b0 b1 b2 b3 b4 b5 b6 b7 : Int) : Nat → Int
  | 0 => 0
  | 1 => b0
  | 2 => b0 + 256 * b1
  | 3 => b0 + 256 * b1 + 65536 * b2
  | 4 => b0 + 256 * b1 + 65536 * b2 + 16777216 * b3
  | 5 => b0 + 256 * b1 + 65536 * b2 + 16777216 * b3 + 4294967296 * b4
  | 6 => b0 + 256 * b1 + 65536 * b2 + 16777216 * b3 + 4294967296 * b4 + 1099511627776 * b5
  | 7 => b0 + 256 * b1 + 65536 * b2 + 16777216 * b3 + 4294967296 * b4 + 1099511627776 * b5 + 281474976710656 * b6
  | _ => cellSum b0 b1 b2 b3 b4 b5 b6 b7

theorem bt_nat (s : ByteArray) (i : Nat) : bt s (i : Int) = ((s.data.toList[i]?.getD 0).toNat : Int) := by
  unfold bt
  simp only [Int.toNat_natCast]
  by_cases h : i < s.size
  · have h' : i < s.data.toList.length := by simpa using h
    rw [dif_pos h, List.getElem?_eq_getElem h']
    rfl
  · have h' : ¬ i < s.data.toList.length := by simpa using h
    rw [dif_neg h, List.getElem?_eq_none (by omega)]
    rfl

theorem list8 (l : List UInt8) : ((l.take 8).map (fun b : UInt8 => Value.int .u8 (b.toNat : Int)) ++ zeros8.toList.drop (min l.length 8)).toArray =
    eight ((l[0]?.getD 0).toNat : Int) ((l[1]?.getD 0).toNat : Int) ((l[2]?.getD 0).toNat : Int) ((l[3]?.getD 0).toNat : Int) ((l[4]?.getD 0).toNat : Int) ((l[5]?.getD 0).toNat : Int) ((l[6]?.getD 0).toNat : Int) ((l[7]?.getD 0).toNat : Int) := by
  match l with
  | [] => rfl
  | [_] => rfl
  | [_, _] => rfl
  | [_, _, _] => rfl
  | [_, _, _, _] => rfl
  | [_, _, _, _, _] => rfl
  | [_, _, _, _, _, _] => rfl
  | [_, _, _, _, _, _, _] => rfl
  | a :: b :: c :: d :: e :: f :: g :: h :: r =>
    have : min (r.length + 1 + 1 + 1 + 1 + 1 + 1 + 1 + 1) 8 = 8 := by omega
    simp [zeros8, eight]

theorem extract_list (s : ByteArray) (p : Nat) : (s.extract p s.size).data.toList = s.data.toList.drop p := by
  rw [ByteArray.data_extract, Array.toList_extract, List.extract_eq_take_drop, List.take_of_length_le]
  simp only [List.length_drop]
  exact Nat.le_refl _

theorem bt_extract (s : ByteArray) (p i : Nat) : bt (s.extract p s.size) (i : Int) = bt s ((p + i : Nat) : Int) := by
  rw [bt_nat, bt_nat, extract_list, List.getElem?_drop]

theorem extract_extract_end (s : ByteArray) (p k : Nat) : (s.extract p s.size).extract k (s.extract p s.size).size = s.extract (p + k) s.size := by
  apply ByteArray.ext
  apply Array.toList_inj.1
  rw [extract_list, extract_list, extract_list, List.drop_drop]

theorem extract_step (s : ByteArray) (j : Nat) (h : 8 * j ≤ s.size) : (s.extract (8 * j) s.size).extract (min (s.size - 8 * j) 8) (s.size - 8 * j) = s.extract (8 * (j + 1)) s.size := by
  have e := extract_extract_end s (8 * j) (min (s.size - 8 * j) 8)
  rw [ByteArray.size_extract, Nat.min_self] at e
  rw [e]
  apply ByteArray.ext
  apply Array.toList_inj.1
  rw [extract_list, extract_list]
  by_cases h8 : 8 ≤ s.size - 8 * j
  · rw [Nat.min_eq_right h8, Nat.mul_add]
  · have hl : s.data.toList.length = s.size := by simp
    rw [List.drop_of_length_le (by omega), List.drop_of_length_le (by omega)]

theorem or_join {a b c : Int} (i : Nat) (h0 : 0 ≤ a) (h1 : a < 2 ^ i) (h2 : 0 ≤ b) (hc : c = b * 2 ^ i) (h3 : c < 18446744073709551616) (h4 : (2 : Int) ^ i ≤ 18446744073709551616) : bits .or .u64 a c = a + c := by
  obtain ⟨a, rfl⟩ := Int.eq_ofNat_of_zero_le h0
  obtain ⟨b, rfl⟩ := Int.eq_ofNat_of_zero_le h2
  have e : c = ((b * 2 ^ i : Nat) : Int) := by rw [hc]; simp
  subst e
  have h1' : a < 2 ^ i := by
    have : (a : Int) < ((2 ^ i : Nat) : Int) := by simpa using h1
    omega
  have h4' : 2 ^ i ≤ 18446744073709551616 := by
    have : ((2 ^ i : Nat) : Int) ≤ 18446744073709551616 := by simpa using h4
    omega
  rw [u64_or_nat _ _ (by omega) (by omega), Nat.or_comm, nat_join i _ _ (Nat.mul_mod_left _ _) h1']
  omega

theorem or64_nat (a b : Nat) (ha : a < 9223372036854775808) (hb : b < 9223372036854775808) : bits .or .i64 (a : Int) (b : Int) = ((a ||| b : Nat) : Int) := by
  have hx : a ||| b < 2 ^ 63 := Nat.or_lt_two_pow (by omega) (by omega)
  have e : ∀ n : Nat, n < 9223372036854775808 → (BitVec.ofInt 64 (n : Int)).toNat = n := fun n hn => by
    rw [BitVec.ofInt_natCast, BitVec.toNat_ofNat]
    exact Nat.mod_eq_of_lt (by omega)
  show IntKind.i64.wrap ((BitVec.ofInt 64 (a : Int) ||| BitVec.ofInt 64 (b : Int)).toNat : Int) = _
  rw [BitVec.toNat_or, e a ha, e b hb, IntKind.wrap_i64]
  omega
theorem and64_nat (a b : Nat) (ha : a < 9223372036854775808) (hb : b < 9223372036854775808) : bits .and .i64 (a : Int) (b : Int) = ((a &&& b : Nat) : Int) := by
  have hx : a &&& b < 2 ^ 63 := Nat.and_lt_two_pow _ (by omega)
  have e : ∀ n : Nat, n < 9223372036854775808 → (BitVec.ofInt 64 (n : Int)).toNat = n := fun n hn => by
    rw [BitVec.ofInt_natCast, BitVec.toNat_ofNat]
    exact Nat.mod_eq_of_lt (by omega)
  show IntKind.i64.wrap ((BitVec.ofInt 64 (a : Int) &&& BitVec.ofInt 64 (b : Int)).toNat : Int) = _
  rw [BitVec.toNat_and, e a ha, e b hb, IntKind.wrap_i64]
  omega
theorem or_join_i64 {a b c : Int} (i : Nat) (h0 : 0 ≤ a) (h1 : a < 2 ^ i) (h2 : 0 ≤ b) (hc : c = b * 2 ^ i) (h3 : c < 9223372036854775808) (h4 : (2 : Int) ^ i ≤ 9223372036854775808) : bits .or .i64 a c = a + c := by
  obtain ⟨a, rfl⟩ := Int.eq_ofNat_of_zero_le h0
  obtain ⟨b, rfl⟩ := Int.eq_ofNat_of_zero_le h2
  have e : c = ((b * 2 ^ i : Nat) : Int) := by rw [hc]; simp
  subst e
  have h1' : a < 2 ^ i := by
    have : (a : Int) < ((2 ^ i : Nat) : Int) := by simpa using h1
    omega
  have h4' : 2 ^ i ≤ 9223372036854775808 := by
    have : ((2 ^ i : Nat) : Int) ≤ 9223372036854775808 := by simpa using h4
    omega
  rw [or64_nat _ _ (by omega) (by omega), Nat.or_comm, nat_join i _ _ (Nat.mul_mod_left _ _) h1']
  omega
theorem and_mask_i64 {a m : Int} (i : Nat) (h0 : 0 ≤ a) (h1 : a < 9223372036854775808) (hm : m = 2 ^ i - 1) (hi : i < 63) : bits .and .i64 a m = a % 2 ^ i := by
  obtain ⟨a, rfl⟩ := Int.eq_ofNat_of_zero_le h0
  have hp : 0 < 2 ^ i := Nat.two_pow_pos i
  have e : m = ((2 ^ i - 1 : Nat) : Int) := by rw [hm, Int.natCast_sub hp]; simp
  have hlt : 2 ^ i < 9223372036854775808 := Nat.pow_lt_pow_right (a := 2) (by omega) hi
  rw [e, and64_nat _ _ (by omega) (by omega), Nat.and_two_pow_sub_one_eq_mod]
  simp
theorem R_of_own_int {k : IntKind} {e : Nat} {w : World} {base : Nat} {v : Value} {xs : List Int} (h : w.ownsRow base e 1 v xs.length (encs (Value.int k) xs)) : (Kd.int k).R e w base (fun _ => True) v xs :=
  ⟨fun _ _ => trivial, _, h, Kd.reps_scalar xs⟩

theorem R_empty {k : IntKind} {e c : Nat} (W : World) (base : Nat) (hb : base ≤ W.heap.size) (hc : c ≤ maxLen) (cs : Array Value) (hcs : cs.size = c) : (Kd.int k).R e (W.alloc (.cells cs e)) base (fun _ => True) (.slice (some ⟨W.heap.size, 0, none⟩) 0 c) [] :=
  R_of_own_int ⟨rfl, .inr ⟨W.heap.size, c, cs, rfl, hb, heap_alloc_new W _, Nat.zero_le _, hc, by rw [hcs, Nat.mul_one], rfl⟩⟩

theorem run_make_cap {P : Program} (t e : TypeId) (z : Value) (bytes : Nat) (ht : P.underlying t = some (.slice e)) (hinfo : (P.info? e).map (fun i => (i.zero, i.size, i.bytes)) = some (some z, 1, bytes)) (hz : z.cells = #[z]) (hb0 : 0 < bytes) (c : Nat) (hn : c * bytes ≤ 281474976710656) :
    ∀ W : World, (Instr.makeSlice t (.int .i64 0) (.int .i64 (c : Int))).run P W = .ok (.slice (some ⟨W.heap.size, 0, none⟩) 0 c) (W.alloc (.cells (madeCells #[z] c) e)) := by
  intro W
  obtain ⟨i0, hi, hzz⟩ := Option.map_eq_some_iff.1 hinfo
  simp only [Prod.mk.injEq] at hzz
  obtain ⟨hz0, hz1, hz2⟩ := hzz
  have hm : c ≤ 281474976710656 := Nat.le_trans (Nat.le_mul_of_pos_right _ hb0) hn
  have hb : ((i0.bytes : Nat) : Int) * (c : Int) ≤ 281474976710656 := by
    rw [hz2, ← Int.natCast_mul, Nat.mul_comm]
    omega
  have hr := run_make (P := P) W t e i0 z ht hi hz0 .i64 .i64 0 c (by omega) (by omega) hb (by omega)
  simp only [Int.toNat_natCast, hz1, Nat.mul_one, hz] at hr
  exact hr

theorem madeCells_size (z : Value) (c : Nat) : (madeCells #[z] c).size = c := by simp [madeCells]

/-- The eight bytes of a cell, the lowest first. -/
def ub (c : Int) (i : Nat) : Int := IntKind.u64.wrap c / 2 ^ (8 * i) % 256
def cellBytes (c : Int) : List Int := [ub c 0, ub c 1, ub c 2, ub c 3, ub c 4, ub c 5, ub c 6, ub c 7]
def unb (l : List Int) : List Int := l.flatMap cellBytes
theorem unb_length (l : List Int) : (unb l).length = 8 * l.length := by
  induction l with
  | nil => rfl
  | cons c l ih =>
    have e : unb (c :: l) = cellBytes c ++ unb l := rfl
    rw [e, List.length_append, ih, List.length_cons]
    simp [cellBytes]
    omega
theorem unb_take_succ (l : List Int) (j : Nat) (h : j < l.length) : unb (l.take (j + 1)) = unb (l.take j) ++ cellBytes (rd l j) := by
  have e : l.take (j + 1) = l.take j ++ [rd l j] := by
    rw [List.take_succ_eq_append_getElem h]
    simp [rd, List.getD_eq_getElem?_getD, List.getElem?_eq_getElem h]
  rw [e]
  simp [unb]
/-- The array of eight bytes of which the first q have been written. -/
def fill8 (c : Int) : Nat → Array Value
  | 0 => zeros8
  | 1 => eight (ub c 0) 0 0 0 0 0 0 0
  | 2 => eight (ub c 0) (ub c 1) 0 0 0 0 0 0
  | 3 => eight (ub c 0) (ub c 1) (ub c 2) 0 0 0 0 0
  | 4 => eight (ub c 0) (ub c 1) (ub c 2) (ub c 3) 0 0 0 0
  | 5 => eight (ub c 0) (ub c 1) (ub c 2) (ub c 3) (ub c 4) 0 0 0
  | 6 => eight (ub c 0) (ub c 1) (ub c 2) (ub c 3) (ub c 4) (ub c 5) 0 0
  | 7 => eight (ub c 0) (ub c 1) (ub c 2) (ub c 3) (ub c 4) (ub c 5) (ub c 6) 0
  | _ => eight (ub c 0) (ub c 1) (ub c 2) (ub c 3) (ub c 4) (ub c 5) (ub c 6) (ub c 7)
theorem reads_eight (W : World) (t : TypeId) (x : Int) : ReadsInt (W.alloc (.cells #[.int .u8 (ub x 0), .int .u8 (ub x 1), .int .u8 (ub x 2), .int .u8 (ub x 3), .int .u8 (ub x 4), .int .u8 (ub x 5), .int .u8 (ub x 6), .int .u8 (ub x 7)] t)) .u8 (some ⟨W.heap.size, 0, none⟩) 8 (cellBytes x) := by
  refine ⟨rfl, by omega, fun _ => ⟨_, rfl, fun j hj => ?_⟩⟩
  rw [add_plain, World.cell?_alloc_mark]
  match j, hj with
  | 0, _ => rfl
  | 1, _ => rfl
  | 2, _ => rfl
  | 3, _ => rfl
  | 4, _ => rfl
  | 5, _ => rfl
  | 6, _ => rfl
  | 7, _ => rfl
def unp (l : List Int) (n : Int) : ByteArray × Int :=
  if n < 0 ∨ (n + 7) / 8 ≠ l.length then (⟨#[]⟩, 1) else if ((unb l).drop n.toNat).all (· == 0) = true then (strOfNums ((unb l).take n.toNat), 0) else (⟨#[]⟩, 6)
def strLen : Value → Nat
  | .string s => s.size
  | _ => 0
end Go.Proofs.Ytonjhnglcffihaa.TextMath
