/-
  Plain law: the program's bit operations on 64-bit numbers are the sums that the plain law of numbers speaks of.
-/
import Derived.Test.YtfnmfofipcnojaaDoorNumLaws
import Derived.Laws.Bits64
import Derived.Laws.Bits64b
import Derived.Laws.BitsLemmas
import Derived.Laws.DeepNot64
import Derived.WalkSmall
set_option linter.unusedVariables false
namespace Ph
open Go

theorem umax : IntKind.u64.max = ((18446744073709551615 : Nat) : Int) := by decide
theorem xor_max (x : Nat) (h : x < 18446744073709551616) : bits .xor .u64 IntKind.u64.max (x : Int) = ((18446744073709551615 - x : Nat) : Int) := by
  show IntKind.u64.wrap ((BitVec.ofInt 64 IntKind.u64.max ^^^ BitVec.ofInt 64 (x : Int)).toNat : Int) = _
  have h1 : BitVec.ofInt 64 IntKind.u64.max = BitVec.allOnes 64 := by decide
  rw [h1, BitVec.allOnes_xor, BitVec.toNat_not, ofInt_u64 x h]
  rw [IntKind.wrap_u64]
  omega
/-- The number of a negative int, as the program reckons it. -/
theorem zig_neg (n : Int) (h0 : -9223372036854775808 ≤ n) (h1 : n < 0) : bits .xor .u64 IntKind.u64.max (IntKind.u64.wrap (IntKind.u64.wrap n * 2)) = (zig n : Int) := by
  have e : IntKind.u64.wrap (IntKind.u64.wrap n * 2) = (((2 * n + 18446744073709551616).toNat : Nat) : Int) := by
    rw [IntKind.wrap_u64, IntKind.wrap_u64]; omega
  rw [e, xor_max _ (by omega)]
  unfold zig
  rw [if_neg (by omega)]
  omega
theorem zig_pos (n : Int) (h0 : 0 ≤ n) : n * 2 = (zig n : Int) := by
  unfold zig
  rw [if_pos h0]; omega

set_option maxRecDepth 100000 in
theorem or128 : ∀ X : Fin 256, bits .or .u8 ((X.val : Nat) : Int) 128 = ((X.val % 128 + 128 : Nat) : Int) := by decide
set_option maxRecDepth 100000 in
theorem and127 : ∀ X : Fin 256, bits .and .u8 ((X.val : Nat) : Int) 127 = ((X.val % 128 : Nat) : Int) := by decide
theorem or128_at (x : Nat) (h : x < 256) : bits .or .u8 (x : Int) 128 = ((x % 128 + 128 : Nat) : Int) := or128 ⟨x, h⟩
theorem and127_at (x : Nat) (h : x < 256) : bits .and .u8 (x : Int) 127 = ((x % 128 : Nat) : Int) := and127 ⟨x, h⟩

theorem pow128 (k : Nat) : (128 : Nat) ^ k = 2 ^ (7 * k) := by
  rw [Nat.pow_mul]

/-- Seven bits more. -/
theorem or_seven (x c k : Nat) (hx : x < 128 ^ k) (hc : c < 256) (hs : c % 128 * 128 ^ k < 18446744073709551616) (hk : k ≤ 9) :
    bits .or .u64 (x : Int) (IntKind.u64.wrap (IntKind.u64.wrap (bits .and .u8 (c : Int) 127) * 2 ^ (7 * k))) = ((x + c % 128 * 128 ^ k : Nat) : Int) := by
  have e1 : IntKind.u64.wrap (bits .and .u8 (c : Int) 127) = ((c % 128 : Nat) : Int) := by
    rw [and127_at c hc, IntKind.wrap_u64]; omega
  have e2 : ((c % 128 : Nat) : Int) * 2 ^ (7 * k) = ((c % 128 * 128 ^ k : Nat) : Int) := by
    rw [pow128]; simp
  have e3 : IntKind.u64.wrap (((c % 128 : Nat) : Int) * 2 ^ (7 * k)) = ((c % 128 * 128 ^ k : Nat) : Int) := by
    rw [e2, IntKind.wrap_u64]; omega
  have h9 : (128 : Nat) ^ k ≤ 128 ^ 9 := Nat.pow_le_pow_right (by omega) hk
  have e9 : (128 : Nat) ^ 9 = 9223372036854775808 := by decide
  rw [e1, e3, bits_or_u64_nat x _ (by omega) hs]
  congr 1
  rw [pow128] at hx ⊢
  rw [Nat.or_comm, Nat.mul_comm, ← Nat.two_pow_add_eq_or_of_lt hx]
  omega
/-- The same at the last place, as the walk spells it. -/
theorem or_last (x c : Nat) (hx : x < 128 ^ 9) (hc : c ≤ 1) :
    bits .or .u64 (x : Int) (IntKind.u64.wrap (IntKind.u64.wrap (bits .and .u8 (c : Int) 127) * 9223372036854775808)) = ((x + c % 128 * 128 ^ 9 : Nat) : Int) := by
  have e9 : (128 : Nat) ^ 9 = 9223372036854775808 := by decide
  have h := or_seven x c 9 hx (by omega) (by rw [e9]; omega) (by omega)
  have e2 : (2 : Int) ^ (7 * 9) = 9223372036854775808 := by decide
  rw [e2] at h
  exact h

theorem sum_small (x c k : Nat) (hx : x < 128 ^ k) (hk : k ≤ 8) (hc : c < 256) : c % 128 * 128 ^ k < 18446744073709551616 ∧ x + c % 128 * 128 ^ k < 128 ^ (k + 1) := by
  have h8 : (128 : Nat) ^ k ≤ 128 ^ 8 := Nat.pow_le_pow_right (by omega) hk
  have e8 : (128 : Nat) ^ 8 = 72057594037927936 := by decide
  have h1 : c % 128 * 128 ^ k ≤ 127 * 128 ^ k := Nat.mul_le_mul_right _ (by omega)
  rw [Nat.pow_succ]
  omega

/-- What is read of a number's last byte. -/
theorem unzig_even (y : Nat) (h : y % 2 = 0) : unzig y = ((y / 2 : Nat) : Int) := by unfold unzig; rw [if_neg (by omega)]
theorem unzig_odd (y : Nat) (h : y % 2 = 1) : unzig y = -1 - ((y / 2 : Nat) : Int) := by unfold unzig; rw [if_pos h]; omega

theorem getN_end (k x : Nat) : getN k x [] = (0, 0, 2) := rfl
theorem getN_big (k x : Nat) (c : UInt8) (t : List UInt8) (h : k = 9) (hc : 1 < c.toNat) : getN k x (c :: t) = (0, 0, 1) := by simp only [getN]; rw [if_pos ⟨h, hc⟩]
theorem getN_more (k x : Nat) (c : UInt8) (t : List UInt8) (h : k ≠ 9) (hc : 128 ≤ c.toNat) : getN k x (c :: t) = getN (k + 1) (x + c.toNat % 128 * 128 ^ k) t := by simp only [getN]; rw [if_neg (by omega), if_pos hc]
theorem getN_zero (k x : Nat) (c : UInt8) (t : List UInt8) (h : 0 < k) (hc : c.toNat = 0) : getN k x (c :: t) = (0, 0, 1) := by simp only [getN]; rw [if_neg (by omega), if_neg (by omega), if_pos ⟨h, hc⟩]
theorem getN_last (k x : Nat) (c : UInt8) (t : List UInt8) (h9 : ¬ (k = 9 ∧ 1 < c.toNat)) (hc : c.toNat < 128) (hz : ¬ (0 < k ∧ c.toNat = 0)) : getN k x (c :: t) = (unzig (x + c.toNat % 128 * 128 ^ k), k + 1, 0) := by simp only [getN]; rw [if_neg h9, if_neg (by omega), if_neg hz]

/-- The bytes that are still to be written. -/
theorem putN_split (f u : Nat) (h : ¬ u < 128) (hu : u < 128 ^ f) : ∃ g, f = g + 1 ∧ 1 ≤ g ∧ u / 128 < 128 ^ g ∧ putN f u = (u % 128 + 128).toUInt8 :: putN g (u / 128) := by
  obtain ⟨g, rfl⟩ : ∃ g, f = g + 1 := by
    cases f with
    | zero => simp at hu; omega
    | succ g => exact ⟨g, rfl⟩
  refine ⟨g, rfl, ?_, ?_, putN_more g u h⟩
  · rcases Nat.eq_zero_or_pos g with h0 | h0
    · subst h0; simp at hu; omega
    · exact h0
  · rw [Nat.pow_succ] at hu; omega
end Ph
