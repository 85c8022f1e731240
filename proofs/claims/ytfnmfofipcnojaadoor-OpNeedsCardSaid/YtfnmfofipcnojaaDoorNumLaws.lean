/-
  Plain law: a number's bytes are read back, whatever follows; so are a text's.
-/
import Derived.Test.YtfnmfofipcnojaaDoorNumPlain
set_option linter.unusedVariables false
namespace Ph

theorem u8n (x : Nat) (h : x < 256) : (x.toUInt8).toNat = x := by simp; omega

theorem putN_last (f u : Nat) (h : u < 128) : putN (f + 1) u = [u.toUInt8] := by simp [putN, h]
theorem putN_more (f u : Nat) (h : ¬ u < 128) : putN (f + 1) u = (u % 128 + 128).toUInt8 :: putN f (u / 128) := by simp [putN, h]

theorem pow_step (i : Nat) : 128 ^ (i + 1) = 128 ^ i * 128 := Nat.pow_succ 128 i

/-- Read back from place i on. -/
theorem getN_putN : ∀ (f i a u : Nat) (t : List UInt8), u < 128 ^ f → i + f ≤ 10 → 1 ≤ f → (1 ≤ i → 1 ≤ u) → (i = 9 → u ≤ 1) → (∀ j, i + j = 9 → u / 128 ^ j ≤ 1) →
    getN i a (putN f u ++ t) = (unzig (a + u * 128 ^ i), i + (putN f u).length, 0)
  | 0, _, _, _, _, _, _, h, _, _, _ => by omega
  | f + 1, i, a, u, t, hu, hf, _, h1, h9, hj => by
    by_cases hl : u < 128
    · rw [putN_last f u hl]
      have hb := u8n u (by omega)
      simp only [List.cons_append, List.nil_append, getN, hb, List.length_cons, List.length_nil]
      rw [if_neg (by omega), if_neg (by omega), if_neg (by omega)]
      have : u % 128 = u := by omega
      rw [this]
    · rw [putN_more f u hl]
      have hb := u8n (u % 128 + 128) (by omega)
      have hne : i ≠ 9 := fun e => by have := h9 e; omega
      have hf1 : 1 ≤ f := by
        rcases Nat.eq_zero_or_pos f with h0 | h0
        · subst h0; simp at hu; omega
        · exact h0
      simp only [List.cons_append, getN, hb, List.length_cons]
      rw [if_neg (by omega), if_pos (by omega)]
      have hd : u / 128 < 128 ^ f := by
        rw [pow_step] at hu
        omega
      rw [getN_putN f (i + 1) _ (u / 128) t hd (by omega) hf1 (fun _ => by omega) (fun e => by
          have := hj 1 (by omega)
          simpa using this) (fun j e => by
          have := hj (j + 1) (by omega)
          rw [Nat.div_div_eq_div_mul, Nat.mul_comm]
          rw [pow_step] at this
          exact this)]
      have e1 : (u % 128 + 128) % 128 = u % 128 := by omega
      rw [e1, pow_step]
      congr 1
      · congr 1
        have : u / 128 * (128 ^ i * 128) = 128 * (u / 128) * 128 ^ i := by
          rw [Nat.mul_comm (128 ^ i) 128, ← Nat.mul_assoc, Nat.mul_comm (u / 128) 128]
        rw [this]
        have h2 : u = u % 128 + 128 * (u / 128) := by omega
        have h3 : u * 128 ^ i = (u % 128 + 128 * (u / 128)) * 128 ^ i := by rw [← h2]
        rw [h3, Nat.add_mul]
        omega
      · congr 1
        omega

theorem zig_small {n : Int} (h0 : -9223372036854775808 ≤ n) (h1 : n ≤ 9223372036854775807) : zig n < 128 ^ 10 ∧ ∀ j, 0 + j = 9 → zig n / 128 ^ j ≤ 1 := by
  have h := zig_lt h0 h1
  have e10 : (128 : Nat) ^ 10 = 1180591620717411303424 := by decide
  have e9 : (128 : Nat) ^ 9 = 9223372036854775808 := by decide
  refine ⟨by rw [e10]; omega, fun j hj => ?_⟩
  obtain rfl : j = 9 := by omega
  rw [e9]
  omega

/-- A NUMBER's BYTES, READ AGAIN. -/
theorem getI_putI (n : Int) (t : List UInt8) (h0 : -9223372036854775808 ≤ n) (h1 : n ≤ 9223372036854775807) : getI (putI n ++ t) = (n, (putI n).length, 0) := by
  obtain ⟨a, b⟩ := zig_small h0 h1
  unfold getI putI putU
  rw [getN_putN 10 0 0 (zig n) t a (by omega) (by omega) (fun h => by omega) (fun h => by omega) b]
  simp [unzig_zig]

/-- A TEXT's BYTES, READ AGAIN. -/
theorem getT_putT (s t : List UInt8) (h : s.length ≤ 1048576) : getT (putT s ++ t) = (s, (putT s).length, 0) := by
  have g := getI_putI s.length (s ++ t) (by omega) (by omega)
  unfold putT getT
  rw [List.append_assoc, g]
  simp only [List.length_append]
  rw [if_neg (by omega), if_neg (by omega), if_neg (by simp)]
  simp

/-! ### what is read lies in the bytes -/
theorem getN_le : ∀ (l : List UInt8) (i u : Nat), (getN i u l).2.1 ≤ i + l.length ∧ ((getN i u l).2.2 = 0 ∨ (getN i u l).2.2 = 1 ∨ (getN i u l).2.2 = 2) ∧ ((getN i u l).2.2 ≠ 0 → (getN i u l).1 = 0 ∧ (getN i u l).2.1 = 0)
  | [], i, u => by simp [getN]
  | c :: t, i, u => by
    simp only [getN]
    split
    · simp
    · split
      · have := getN_le t (i + 1) (u + c.toNat % 128 * 128 ^ i)
        simp only [List.length_cons]
        exact ⟨by omega, this.2⟩
      · split
        · simp
        · simp
theorem getI_le (l : List UInt8) : (getI l).2.1 ≤ l.length := by
  have := (getN_le l 0 0).1
  unfold getI; omega
theorem getI_err (l : List UInt8) : (getI l).2.2 = 0 ∨ (getI l).2.2 = 1 ∨ (getI l).2.2 = 2 := (getN_le l 0 0).2.1
theorem getI_bad (l : List UInt8) (h : (getI l).2.2 ≠ 0) : (getI l).1 = 0 ∧ (getI l).2.1 = 0 := (getN_le l 0 0).2.2 h
end Ph
