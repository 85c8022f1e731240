/-
  Plain law: the reference's decoder, lead byte by lead byte, is the model's decoder.
-/
import Derived.Test.YtfnmfofipcnojaaDoorRunesStep
set_option linter.unusedVariables false
namespace Ph
open Go Go.Lib

/-- What the reference has reckoned at byte k. -/
def Rk (r0 : Int) (b : Nat → Nat) : Nat → Int
  | 0 => r0
  | 1 => r0
  | k + 2 => Rk r0 b (k + 1) * 64 + b (k + 1) - 128

/-- The bytes of a text, as numbers. -/
def bt (s : ByteArray) (k : Nat) : Nat := (s.data.toList.getD k 0).toNat
theorem bt_lt (s : ByteArray) (k : Nat) : bt s k < 256 := UInt8.toNat_lt _
theorem bt_at (s : ByteArray) (k : Nat) (h : k < s.size) : bt s k = (s[k]'h).toNat := by
  have hl := len_toList s
  unfold bt
  rw [List.getD_eq_getElem?_getD, List.getElem?_eq_getElem (by omega)]
  simp
  rfl
theorem decZ_bt (s : ByteArray) (h : 0 < s.size) : decZ s.data.toList = decodeN s.size (bt s 0) (bt s 1) (bt s 2) (bt s 3) := by
  rw [(decZ_ne h).1, decodeL_N, len_toList]
  rfl

theorem d1 (n b0 b1 b2 b3 : Nat) (h : b0 < 128) : decodeN n b0 b1 b2 b3 = (b0, 1) := by unfold decodeN; rw [if_pos h]
theorem d0 (n b0 b1 b2 b3 : Nat) (h : 128 ≤ b0 ∧ b0 < 192 ∨ 248 ≤ b0) (h' : b0 < 256) : decodeN n b0 b1 b2 b3 = (65533, 1) := decodeN_bad _ _ _ _ _ (by omega)

theorem d2s (n b0 b1 b2 b3 : Nat) (h : 192 ≤ b0 ∧ b0 < 224) (hn : n < 2) : decodeN n b0 b1 b2 b3 = (65533, 1) := by
  unfold decodeN; rw [if_neg (by omega), if_neg (by omega), if_neg (by omega), if_neg (by omega)]
theorem d2b (n : Nat) (b : Nat → Nat) (hb : ∀ k, b k < 256) (h : 192 ≤ b 0 ∧ b 0 < 224) (k : Nat) (h1 : 1 ≤ k) (h2 : k < 2) (hk : b k < 128 ∨ 191 < b k) : decodeN n (b 0) (b 1) (b 2) (b 3) = (65533, 1) := by
  obtain rfl : k = 1 := by omega
  have := hb 1
  unfold decodeN; rw [if_neg (by omega), if_neg (by omega), if_neg (by omega), if_neg (by omega)]
theorem d2e (n : Nat) (b : Nat → Nat) (h : 192 ≤ b 0 ∧ b 0 < 224) (hn : 2 ≤ n) (h1 : ∀ j, 1 ≤ j → j < 2 → 128 ≤ b j ∧ b j ≤ 191) (hr : Rk (b 0 - 192) b 2 < 128) : decodeN n (b 0) (b 1) (b 2) (b 3) = (65533, 1) := by
  have j1 := h1 1 (by omega) (by omega)
  simp only [Rk, Nat.reduceAdd] at hr
  unfold decodeN; rw [if_neg (by omega), if_pos ⟨by omega, by omega, by omega⟩, if_neg (by omega)]
theorem d2o (n : Nat) (b : Nat → Nat) (h : 192 ≤ b 0 ∧ b 0 < 224) (hn : 2 ≤ n) (h1 : ∀ j, 1 ≤ j → j < 2 → 128 ≤ b j ∧ b j ≤ 191) (hr : ¬ Rk (b 0 - 192) b 2 < 128) :
    ((decodeN n (b 0) (b 1) (b 2) (b 3)).1 : Int) = Rk (b 0 - 192) b 2 ∧ (decodeN n (b 0) (b 1) (b 2) (b 3)).2 = 2 ∧ Rk (b 0 - 192) b 2 < 55296 := by
  have j1 := h1 1 (by omega) (by omega)
  simp only [Rk, Nat.reduceAdd] at hr ⊢
  unfold decodeN; rw [if_neg (by omega), if_pos ⟨by omega, by omega, by omega⟩, if_pos (by omega)]
  exact ⟨by simp only; omega, rfl, by omega⟩

theorem d3s (n b0 b1 b2 b3 : Nat) (h : 224 ≤ b0 ∧ b0 < 240) (hn : n < 3) : decodeN n b0 b1 b2 b3 = (65533, 1) := by
  unfold decodeN; rw [if_neg (by omega), if_neg (by omega), if_neg (by omega), if_neg (by omega)]
theorem d3b (n : Nat) (b : Nat → Nat) (hb : ∀ k, b k < 256) (h : 224 ≤ b 0 ∧ b 0 < 240) (k : Nat) (h1 : 1 ≤ k) (h2 : k < 3) (hk : b k < 128 ∨ 191 < b k) : decodeN n (b 0) (b 1) (b 2) (b 3) = (65533, 1) := by
  have := hb 1
  have := hb 2
  unfold decodeN
  rcases (show k = 1 ∨ k = 2 by omega) with rfl | rfl
  · rw [if_neg (by omega), if_neg (by omega), if_neg (by omega), if_neg (by omega)]
  · rw [if_neg (by omega), if_neg (by omega), if_neg (by omega), if_neg (by omega)]
theorem d3e (n : Nat) (b : Nat → Nat) (h : 224 ≤ b 0 ∧ b 0 < 240) (hn : 3 ≤ n) (h1 : ∀ j, 1 ≤ j → j < 3 → 128 ≤ b j ∧ b j ≤ 191) (hr : Rk (b 0 - 224) b 3 < 2048 ∨ (55296 ≤ Rk (b 0 - 224) b 3 ∧ Rk (b 0 - 224) b 3 < 57344)) : decodeN n (b 0) (b 1) (b 2) (b 3) = (65533, 1) := by
  have j1 := h1 1 (by omega) (by omega)
  have j2 := h1 2 (by omega) (by omega)
  simp only [Rk, Nat.reduceAdd] at hr
  unfold decodeN; rw [if_neg (by omega), if_neg (by omega), if_pos ⟨by omega, ⟨by omega, by omega⟩, by omega, by omega⟩, if_neg (by omega)]
theorem d3o (n : Nat) (b : Nat → Nat) (h : 224 ≤ b 0 ∧ b 0 < 240) (hn : 3 ≤ n) (h1 : ∀ j, 1 ≤ j → j < 3 → 128 ≤ b j ∧ b j ≤ 191) (hr : ¬ (Rk (b 0 - 224) b 3 < 2048 ∨ (55296 ≤ Rk (b 0 - 224) b 3 ∧ Rk (b 0 - 224) b 3 < 57344))) :
    ((decodeN n (b 0) (b 1) (b 2) (b 3)).1 : Int) = Rk (b 0 - 224) b 3 ∧ (decodeN n (b 0) (b 1) (b 2) (b 3)).2 = 3 ∧ Rk (b 0 - 224) b 3 ≤ 1114111 := by
  have j1 := h1 1 (by omega) (by omega)
  have j2 := h1 2 (by omega) (by omega)
  simp only [Rk, Nat.reduceAdd] at hr ⊢
  unfold decodeN; rw [if_neg (by omega), if_neg (by omega), if_pos ⟨by omega, ⟨by omega, by omega⟩, by omega, by omega⟩, if_pos (by omega)]
  exact ⟨by simp only; omega, rfl, by omega⟩

theorem d4s (n b0 b1 b2 b3 : Nat) (h : 240 ≤ b0 ∧ b0 < 248) (hn : n < 4) : decodeN n b0 b1 b2 b3 = (65533, 1) := by
  unfold decodeN; rw [if_neg (by omega), if_neg (by omega), if_neg (by omega), if_neg (by omega)]
theorem d4b (n : Nat) (b : Nat → Nat) (hb : ∀ k, b k < 256) (h : 240 ≤ b 0 ∧ b 0 < 248) (k : Nat) (h1 : 1 ≤ k) (h2 : k < 4) (hk : b k < 128 ∨ 191 < b k) : decodeN n (b 0) (b 1) (b 2) (b 3) = (65533, 1) := by
  have := hb 1
  have := hb 2
  have := hb 3
  unfold decodeN
  rcases (show k = 1 ∨ k = 2 ∨ k = 3 by omega) with rfl | rfl | rfl
  · rw [if_neg (by omega), if_neg (by omega), if_neg (by omega), if_neg (by omega)]
  · rw [if_neg (by omega), if_neg (by omega), if_neg (by omega), if_neg (by omega)]
  · rw [if_neg (by omega), if_neg (by omega), if_neg (by omega), if_neg (by omega)]
theorem d4e (n : Nat) (b : Nat → Nat) (h : 240 ≤ b 0 ∧ b 0 < 248) (hn : 4 ≤ n) (h1 : ∀ j, 1 ≤ j → j < 4 → 128 ≤ b j ∧ b j ≤ 191) (hr : Rk (b 0 - 240) b 4 < 65536 ∨ 1114111 < Rk (b 0 - 240) b 4 ∨ (55296 ≤ Rk (b 0 - 240) b 4 ∧ Rk (b 0 - 240) b 4 < 57344)) : decodeN n (b 0) (b 1) (b 2) (b 3) = (65533, 1) := by
  have j1 := h1 1 (by omega) (by omega)
  have j2 := h1 2 (by omega) (by omega)
  have j3 := h1 3 (by omega) (by omega)
  simp only [Rk, Nat.reduceAdd] at hr
  unfold decodeN; rw [if_neg (by omega), if_neg (by omega), if_neg (by omega), if_pos ⟨by omega, ⟨by omega, by omega⟩, ⟨by omega, by omega⟩, by omega, by omega⟩, if_neg (by omega)]
theorem d4o (n : Nat) (b : Nat → Nat) (h : 240 ≤ b 0 ∧ b 0 < 248) (hn : 4 ≤ n) (h1 : ∀ j, 1 ≤ j → j < 4 → 128 ≤ b j ∧ b j ≤ 191) (hr : ¬ (Rk (b 0 - 240) b 4 < 65536 ∨ 1114111 < Rk (b 0 - 240) b 4 ∨ (55296 ≤ Rk (b 0 - 240) b 4 ∧ Rk (b 0 - 240) b 4 < 57344))) :
    ((decodeN n (b 0) (b 1) (b 2) (b 3)).1 : Int) = Rk (b 0 - 240) b 4 ∧ (decodeN n (b 0) (b 1) (b 2) (b 3)).2 = 4 := by
  have j1 := h1 1 (by omega) (by omega)
  have j2 := h1 2 (by omega) (by omega)
  have j3 := h1 3 (by omega) (by omega)
  simp only [Rk, Nat.reduceAdd] at hr ⊢
  unfold decodeN; rw [if_neg (by omega), if_neg (by omega), if_neg (by omega), if_pos ⟨by omega, ⟨by omega, by omega⟩, ⟨by omega, by omega⟩, by omega, by omega⟩, if_pos (by omega)]
  exact ⟨by simp only; omega, rfl⟩

/-- What has been reckoned stays small. -/
theorem Rk_bd (r0 : Int) (b : Nat → Nat) (h0 : 0 ≤ r0) (h1 : r0 < 32) : ∀ k, k ≤ 4 → (∀ j, 1 ≤ j → j < k → 128 ≤ b j ∧ b j ≤ 191) → 0 ≤ Rk r0 b k ∧ Rk r0 b k < 8388608
  | 0, _, _ => by simp only [Rk]; omega
  | 1, _, _ => by simp only [Rk]; omega
  | 2, _, h => by have := h 1 (by omega) (by omega); simp only [Rk, Nat.reduceAdd]; omega
  | 3, _, h => by have := h 1 (by omega) (by omega); have := h 2 (by omega) (by omega); simp only [Rk, Nat.reduceAdd]; omega
  | 4, _, h => by have := h 1 (by omega) (by omega); have := h 2 (by omega) (by omega); have := h 3 (by omega) (by omega); simp only [Rk, Nat.reduceAdd]; omega
theorem Rk_succ (r0 : Int) (b : Nat → Nat) (k : Nat) (h : 1 ≤ k) : Rk r0 b (k + 1) = Rk r0 b k * 64 + b k - 128 := by
  obtain ⟨j, rfl⟩ : ∃ j, k = j + 1 := ⟨k - 1, by omega⟩
  rfl
end Ph
