/-
  Plain law: the runes of a list of bytes ('rs': each rune with its width, by the model's own decoder), and what is read off them: how many, a cut, a key, an order, folding. No program in sight.
-/
import Derived.Lib.ValidLaws
import Derived.Lib.MapLaws
import Derived.Lib.TrimUEq
import Derived.Lib.RuneBytes
namespace Ph
open Go Go.Lib

def rsN : Nat → List UInt8 → List (Nat × Nat)
  | 0, _ => []
  | n + 1, l => if l = [] then [] else decodeL l :: rsN n (l.drop (decodeL l).2)
/-- All runes of a text: each with its width. -/
def rs (l : List UInt8) : List (Nat × Nat) := rsN l.length l

theorem rsN_nil (n : Nat) : rsN n [] = [] := by cases n <;> simp [rsN]

theorem rsN_fuel : ∀ (n m : Nat) (l : List UInt8), l.length ≤ n → l.length ≤ m → rsN n l = rsN m l
  | 0, m, l, h, _ => by
    have : l = [] := List.length_eq_zero_iff.1 (by omega)
    subst this
    simp [rsN_nil]
  | n + 1, 0, l, _, h => by
    have : l = [] := List.length_eq_zero_iff.1 (by omega)
    subst this
    simp [rsN_nil]
  | n + 1, m + 1, l, h, h' => by
    simp only [rsN]
    by_cases he : l = []
    · simp [he]
    · have hw := decodeL_width l
      rw [if_neg he, if_neg he, rsN_fuel n m _ (by simp; omega) (by simp; omega)]

theorem rs_nil : rs [] = [] := rfl

theorem rs_step (l : List UInt8) (h : l ≠ []) : rs l = decodeL l :: rs (l.drop (decodeL l).2) := by
  have hp : 0 < l.length := List.length_pos_iff.2 h
  have hw := decodeL_width l
  unfold rs
  obtain ⟨n, hn⟩ : ∃ n, l.length = n + 1 := ⟨l.length - 1, by omega⟩
  rw [hn]
  simp only [rsN]
  rw [if_neg h]
  congr 1
  exact rsN_fuel _ _ _ (by simp; omega) (Nat.le_refl _)

theorem rs_eq_nil {l : List UInt8} (h : rs l = []) : l = [] := by
  by_cases he : l = []
  · exact he
  · rw [rs_step l he] at h
    cases h

/-- Induction over the runes. -/
theorem rs_induct {motive : List UInt8 → Prop} (h0 : motive []) (h1 : ∀ l, l ≠ [] → motive (l.drop (decodeL l).2) → motive l) : ∀ l, motive l := by
  intro l
  generalize hn : l.length = n
  induction n using Nat.strongRecOn generalizing l with
  | _ n ih =>
    by_cases he : l = []
    · subst he; exact h0
    · have hw := decodeL_width l
      have hp : 0 < l.length := List.length_pos_iff.2 he
      exact h1 l he (ih _ (by simp; omega) _ rfl)

/-- The widths add up to the length. -/
def wid (p : List (Nat × Nat)) : Nat := (p.map (·.2)).sum
theorem wid_nil : wid [] = 0 := rfl
theorem wid_cons (a : Nat × Nat) (p : List (Nat × Nat)) : wid (a :: p) = a.2 + wid p := by simp [wid]
theorem wid_append (p q : List (Nat × Nat)) : wid (p ++ q) = wid p + wid q := by simp [wid]

theorem wid_rs : ∀ l : List UInt8, wid (rs l) = l.length :=
  rs_induct rfl (fun l he ih => by
    rw [rs_step l he, wid_cons, ih]
    have := decodeL_le l he
    simp; omega)

theorem rs_length_le : ∀ l : List UInt8, (rs l).length ≤ l.length :=
  rs_induct (Nat.le_refl _) (fun l he ih => by
    rw [rs_step l he]
    have := decodeL_le l he
    have := decodeL_width l
    simp at ih ⊢; omega)

/-- Is each rune a true one? -/
theorem validD_rs : ∀ l : List UInt8, validD l = (rs l).all fun p => !(p.1 == 65533 && p.2 == 1) :=
  rs_induct (by simp [rs_nil]; rfl) (fun l he ih => by
    rw [validD_step l he, rs_step l he, List.all_cons, ← ih]
    by_cases h : (decodeL l).1 = 65533 ∧ (decodeL l).2 = 1
    · simp [h]
    · rw [if_neg h]
      have : ((decodeL l).1 == 65533 && (decodeL l).2 == 1) = false := by
        rw [Bool.eq_false_iff]; simpa using h
      simp [this])

/-! ### what is read off -/
def count (l : List UInt8) : Nat := (rs l).length

/-- The first n runes' bytes. -/
def cutL (l : List UInt8) (n : Int) : List UInt8 := if n < 1 then [] else l.take (wid ((rs l).take n.toNat))

def lower (r : Int) : Int :=
  if (65 ≤ r ∧ r ≤ 90) ∨ (192 ≤ r ∧ r ≤ 222 ∧ r ≠ 215) ∨ (913 ≤ r ∧ r ≤ 937 ∧ r ≠ 930) ∨ (1040 ≤ r ∧ r ≤ 1071) then r + 32 else r

def foldR (p : List (Nat × Nat)) : List UInt8 := p.flatMap fun q => encodeRune (lower q.1)
def foldL (l : List UInt8) : List UInt8 := foldR (rs l)

/-- No rune below a blank, none that is 127. -/
def plainB (p : List (Nat × Nat)) : Bool := p.all fun q => !(decide (q.1 < 32) || q.1 == 127)
def keyB (l : List UInt8) : Bool := plainB (rs l) && decide (1 ≤ count l) && decide (count l ≤ 40) && validD l

/-- The order of two lists of numbers. -/
def lessR : List Nat → List Nat → Option Bool
  | [], [] => none
  | [], _ :: _ => some true
  | _ :: _, [] => some false
  | x :: xs, y :: ys => if x = y then lessR xs ys else some (decide (x < y))

def bytesLess : List UInt8 → List UInt8 → Bool
  | [], [] => false
  | [], _ :: _ => true
  | _ :: _, [] => false
  | x :: xs, y :: ys => if x = y then bytesLess xs ys else decide (x < y)

end Ph
