/-
  Plain law: a rune written again and again; a byte that is none, between two texts; a rune's own bytes read again.
-/
import Derived.Test.YtmppeellnpepfaaDoorRunesStep
set_option linter.unusedVariables false
namespace Ph
open Go Go.Lib

theorem decZ_encode {r : Int} (h : okRune r) : ((decZ (encodeRune r)).1 : Int) = r ∧ (decZ (encodeRune r)).2 = (encodeRune r).length := by
  have hd := decode_encode r h []
  rw [List.append_nil] at hd
  have hl := encode_len r
  have hne : encodeRune r ≠ [] := by
    intro hh
    rw [hh, List.length_nil] at hl
    omega
  have e : decZ (encodeRune r) = decodeL (encodeRune r) := by unfold decZ; rw [if_neg hne]
  rw [e, hd]
  refine ⟨?_, rfl⟩
  unfold okRune at h
  show ((r.toNat : Nat) : Int) = r
  omega
theorem encode_bad {r : Int} (h : r < 0 ∨ (55296 ≤ r ∧ r ≤ 57343) ∨ 1114111 < r) : encodeRune r = [239, 191, 189] := by
  unfold encodeRune
  rw [encodeRuneZ_bad h]
  rfl
theorem decZ_bad {r : Int} (h : r < 0 ∨ (55296 ≤ r ∧ r ≤ 57343) ∨ 1114111 < r) : ((decZ (encodeRune r)).1 : Int) = 65533 ∧ (decZ (encodeRune r)).2 = (encodeRune r).length := by
  rw [encode_bad h]
  decide +kernel

/-- A rune's bytes, k times. -/
def repl (r : Int) : Nat → List UInt8
  | 0 => []
  | k + 1 => repl r k ++ encodeRune r
theorem encode_valid {r : Int} (h : okRune r) : rs (encodeRune r) = [(r.toNat, (encodeRune r).length)] ∧ validD (encodeRune r) = true := by
  have hd := decode_encode r h []
  rw [List.append_nil] at hd
  have hl := encode_len r
  have hne : encodeRune r ≠ [] := by
    intro hh
    rw [hh, List.length_nil] at hl
    omega
  have h1 : rs (encodeRune r) = [(r.toNat, (encodeRune r).length)] := by
    rw [rs_step _ hne, hd]
    simp [rs_nil]
  refine ⟨h1, ?_⟩
  rw [validD_rs, h1]
  by_cases he : r = 65533
  · have := encode_len_err r h he
    simp [this]
  · have : ¬ r.toNat = 65533 := by unfold okRune at h; omega
    simp [this]
theorem repl_rs {r : Int} (h : okRune r) : ∀ k, rs (repl r k) = List.replicate k (r.toNat, (encodeRune r).length) ∧ validD (repl r k) = true
  | 0 => ⟨rfl, rfl⟩
  | k + 1 => by
    obtain ⟨i1, i2⟩ := repl_rs h k
    obtain ⟨e1, e2⟩ := encode_valid h
    simp only [repl]
    rw [rs_append _ _ i2, i1, e1, validD_append _ _ i2, e2, List.replicate_succ']
    exact ⟨rfl, rfl⟩
theorem repl_len (r : Int) : ∀ k, (repl r k).length ≤ 4 * k
  | 0 => by simp [repl]
  | k + 1 => by
    have := repl_len r k
    have h1 := encodeRuneZ_length r
    have h2 : (encodeRune r).length = (encodeRuneZ r).length := by simp [encodeRune]
    simp only [repl, List.length_append]
    omega
theorem repl_count {r : Int} (h : okRune r) (k : Nat) : count (repl r k) = k := by simp [count, (repl_rs h k).1]
theorem repl_key {r : Int} (h : okRune r) (h1 : 32 ≤ r) (h2 : r ≠ 127) (k : Nat) : keyB (repl r k) = (decide (1 ≤ k) && decide (k ≤ 40)) := by
  have hp : plainB (rs (repl r k)) = true := by
    rw [(repl_rs h k).1]
    unfold plainB
    rw [List.all_eq_true]
    intro q hq
    have := List.eq_of_mem_replicate hq
    subst this
    unfold okRune at h
    have h3 : ¬ r.toNat < 32 := by omega
    have h4 : ¬ r.toNat = 127 := by omega
    simp [h3, h4]
  rw [keyB_all hp, (repl_rs h k).2, repl_count h k]
  simp

/-! ### a byte that is none -/
theorem bad_rs (a b : List UInt8) (c : UInt8) (ha : validD a = true) (hc : 248 ≤ c.toNat) : rs (a ++ c :: b) = rs a ++ (65533, 1) :: rs b := by
  rw [rs_append _ _ ha, rs_bad c b hc]
theorem bad_valid (a b : List UInt8) (c : UInt8) (ha : validD a = true) (hc : 248 ≤ c.toNat) : validD (a ++ c :: b) = false := by
  rw [validD_rs, bad_rs a b c ha hc]
  simp
theorem keyB_invalid {l : List UInt8} (h : validD l = false) : keyB l = false := by simp [keyB, h]
theorem bad_count (a b : List UInt8) (c : UInt8) (ha : validD a = true) (hc : 248 ≤ c.toNat) : count (a ++ c :: b) = count a + 1 + count b := by
  unfold count
  rw [bad_rs a b c ha hc]
  simp; omega
theorem bad_fold (a b : List UInt8) (c : UInt8) (ha : validD a = true) (hc : 248 ≤ c.toNat) : foldL (a ++ c :: b) = foldL a ++ [239, 191, 189] ++ foldL b := by
  unfold foldL
  rw [bad_rs a b c ha hc]
  have e : encodeRune (lower ((65533 : Nat) : Int)) = [239, 191, 189] := by decide +kernel
  simp [foldR] at e ⊢
  rw [e]
  rfl
theorem join_count (a b : List UInt8) (ha : validD a = true) : count (a ++ b) = count a + count b := by
  unfold count
  rw [rs_append a b ha, List.length_append]
theorem join_cut (a b : List UInt8) (ha : validD a = true) : cutL (a ++ b) (count a) = a := by
  unfold cutL
  split
  · have : count a = 0 := by omega
    have : a = [] := rs_eq_nil (List.length_eq_zero_iff.1 this)
    rw [this]
  · rw [rs_append a b ha]
    have e : ((count a : Nat) : Int).toNat = (rs a).length := by unfold count; omega
    rw [e, List.take_left' rfl, wid_rs, List.take_left' rfl]
theorem foldL_len (l : List UInt8) : (foldL l).length ≤ 4 * l.length := by
  have h1 := foldR_len (rs l)
  have h2 := rs_length_le l
  show (foldR (rs l)).length ≤ _
  omega
end Ph
