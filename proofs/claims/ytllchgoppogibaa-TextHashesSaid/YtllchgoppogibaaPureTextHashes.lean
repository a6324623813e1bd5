/- The texts' hashes: both loops fold the same step. -/
import Derived.Test.YtllchgoppogibaaPrintx5
import Derived.Test.YtllchgoppogibaaAlive
set_option linter.unusedVariables false
namespace Go.Proofs.Ytllchgoppogibaa.Pure
open Go.RowKit Go.Proofs.Ytllchgoppogibaa.Print Go.Proofs.YtllchgoppogibaaW.PrintWords Go.Proofs.YtllchgoppogibaaW.PrintLast

def hstep (h b : Int) : Int := ((Go.bits .xor .u32 h (b % 4294967296)) * 16777619) % 4294967296
def hashFrom (s : ByteArray) : Nat → Int → Nat → Int
  | 0, h, _ => h
  | d + 1, h, i => hashFrom s d (hstep h (bt s (i : Nat))) (i + 1)
theorem wrap_nat_succ (i : Nat) (h : i < 9223372036854775807) : wrap64 ((i : Int) + 1) = ((i + 1 : Nat) : Int) := by unfold wrap64; omega

theorem hash_ev (s : ByteArray) (hs : s.size ≤ 140737488351232) : ∀ (d i : Nat) (h : Int), i + d = s.size → Ev (fun k => text_Hash.l0 k s h (s.size : Int) (i : Int)) (hashFrom s d h i) := by
  intro d
  induction d with
  | zero =>
    intro i h hi
    exact Ev.step (f := fun _ => some h) (fun k => by simp only [text_Hash.l0]; rw [if_neg (by omega)]) (Ev.now h)
  | succ d ih =>
    intro i h hi
    refine Ev.step (fun k => ?_) (ih (i + 1) (hstep h (bt s (i : Nat))) (by omega))
    simp only [text_Hash.l0]
    rw [if_pos (by omega), if_pos (by omega), if_pos (by omega), wrap_nat_succ i (by omega)]
    rfl
theorem rhash_ev (s : ByteArray) (hs : s.size ≤ 140737488351232) : ∀ (d i : Nat) (h : Int), i + d = s.size → Ev (fun k => heirloomref02_Hash.l0 k s h (i : Int)) (hashFrom s d h i) := by
  intro d
  induction d with
  | zero =>
    intro i h hi
    exact Ev.step (f := fun _ => some h) (fun k => by simp only [heirloomref02_Hash.l0]; rw [if_neg (by omega)]) (Ev.now h)
  | succ d ih =>
    intro i h hi
    refine Ev.step (fun k => ?_) (ih (i + 1) (hstep h (bt s (i : Nat))) (by omega))
    simp only [heirloomref02_Hash.l0]
    rw [if_pos (by omega), if_pos (by omega), wrap_nat_succ i (by omega)]
    rfl
theorem mix_eq (t n : Int) : heirloomref02_Mix.f t n = text_Mix.f t n := by
  unfold heirloomref02_Mix.f text_Mix.f
  generalize hx : IntKind.u64.wrap ((IntKind.u64.wrap ((IntKind.u64.wrap n) * 11400714819323198485)) + (IntKind.u64.wrap t)) = x
  have hr : 0 ≤ x ∧ x < 18446744073709551616 := by rw [← hx, IntKind.wrap_u64]; omega
  obtain ⟨m, rfl⟩ := Int.eq_ofNat_of_zero_le hr.1
  have e : bits .and .u64 (m : Int) 4294967295 = ((m % 4294967296 : Nat) : Int) := by
    have h := u64_and_nat m 4294967295 (by omega) (by omega)
    rw [show (m &&& 4294967295) = m % 4294967296 from Nat.and_two_pow_sub_one_eq_mod m 32] at h
    exact h
  rw [e]
  congr 2
  omega
theorem TextHashes : heirloomlaw02_TextHashes.Pure := by
  intro s t n hs ht hn
  apply Ev.rounds
  unfold heirloomlaw02_TextHashes.f
  by_cases hl : (s.size : Int) > 3000
  · simp only [if_pos hl]
    exact Ev.bind alive_ev (Ev.now true)
  · simp only [if_neg hl]
    refine Ev.bind (g := fun k => text_Hash.f k s) (a := hashFrom s s.size 2166136261 0) (hash_ev s hs s.size 0 _ (by omega)) ?_
    refine Ev.bind (g := fun k => heirloomref02_Hash.f k s) (a := hashFrom s s.size 2166136261 0) (rhash_ev s hs s.size 0 _ (by omega)) ?_
    simp only [if_true, mix_eq]
    unfold text_Mix.f
    simp only [Option.bind_some, if_true]
    exact Ev.bind alive_ev (Ev.now true)
end Go.Proofs.Ytllchgoppogibaa.Pure
