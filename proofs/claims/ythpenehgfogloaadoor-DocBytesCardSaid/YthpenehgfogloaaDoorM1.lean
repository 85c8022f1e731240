/-
  Texts of the proof, one behind the other (part 1).
-/
import Derived.Lib.ValidLaws
import Derived.Lib.MapLaws
import Derived.Lib.TrimUEq
import Derived.Lib.RuneBytes
import Derived.Laws.RangeAny
import Derived.Laws.Strings
import GoSem.Op.String
import Derived.Shelf.Small.Bits
import Derived.Shelf.Strconv.Itoa0
import Derived.Shelf.Bytes.SlSearch0
import Derived.Shelf.Bytes.SlEqualAll
import Derived.Shelf.Bytes.Small
import Derived.Shelf.Unicode.ValidAny
import Derived.Test.YthpenehgfogloaaDoorProg
import Derived.Test.YthpenehgfogloaaDoorChecked
import Derived.WalkKit
import Derived.WalkLawsBesides
import Derived.WalkSpells
import Derived.Lib.Hide
import Derived.Test.YthpenehgfogloaaDoorCards
import Derived.Test.YthpenehgfogloaaDoorTie
import Derived.ProofKit
import Derived.OpenShut
import Derived.ShutString
import Derived.ChangeOld
import Derived.Deep.DeepHandedRow
import Derived.PinnedBridge
import Derived.Lib.LaidU8
import Derived.MakeChecks
/-
  Plain law: the runes of a list of bytes ('rs': each rune with its width, by the model's own decoder), and what is read off them: how many, a cut, a key, an order, folding. No program in sight.
-/
namespace Ph
open Go Go.Lib

def rsN : Nat → List UInt8 → List (Nat × Nat)
  | 0, _ => []
  | n + 1, l => if l = [] then [] else decodeL l :: rsN n (l.drop (decodeL l).2)
/-- All runes of a text: each with its width. -/
def rs (l : List UInt8) : List (Nat × Nat) := rsN l.length l

theorem rsN_nil (n : Nat) : rsN n [] = [] := by cases n <;> simp [rsN]

theorem rsN_fuel : ∀ (n m : Nat) (l : List UInt8), l.length ≤ n → l.length ≤ m → rsN n l = rsN m l
  | 0, m, l, h, _ => by
    have : l = [] := List.length_eq_zero_iff.1 (by omega)
    subst this
    simp [rsN_nil]
  | n + 1, 0, l, _, h => by
    have : l = [] := List.length_eq_zero_iff.1 (by omega)
    subst this
    simp [rsN_nil]
  | n + 1, m + 1, l, h, h' => by
    simp only [rsN]
    by_cases he : l = []
    · simp [he]
    · have hw := decodeL_width l
      rw [if_neg he, if_neg he, rsN_fuel n m _ (by simp; omega) (by simp; omega)]

theorem rs_nil : rs [] = [] := rfl

theorem rs_step (l : List UInt8) (h : l ≠ []) : rs l = decodeL l :: rs (l.drop (decodeL l).2) := by
  have hp : 0 < l.length := List.length_pos_iff.2 h
  have hw := decodeL_width l
  unfold rs
  obtain ⟨n, hn⟩ : ∃ n, l.length = n + 1 := ⟨l.length - 1, by omega⟩
  rw [hn]
  simp only [rsN]
  rw [if_neg h]
  congr 1
  exact rsN_fuel _ _ _ (by simp; omega) (Nat.le_refl _)

theorem rs_eq_nil {l : List UInt8} (h : rs l = []) : l = [] := by
  by_cases he : l = []
  · exact he
  · rw [rs_step l he] at h
    cases h

/-- Induction over the runes. -/
theorem rs_induct {motive : List UInt8 → Prop} (h0 : motive []) (h1 : ∀ l, l ≠ [] → motive (l.drop (decodeL l).2) → motive l) : ∀ l, motive l := by
  intro l
  generalize hn : l.length = n
  induction n using Nat.strongRecOn generalizing l with
  | _ n ih =>
    by_cases he : l = []
    · subst he; exact h0
    · have hw := decodeL_width l
      have hp : 0 < l.length := List.length_pos_iff.2 he
      exact h1 l he (ih _ (by simp; omega) _ rfl)

/-- The widths add up to the length. -/
def wid (p : List (Nat × Nat)) : Nat := (p.map (·.2)).sum
theorem wid_nil : wid [] = 0 := rfl
theorem wid_cons (a : Nat × Nat) (p : List (Nat × Nat)) : wid (a :: p) = a.2 + wid p := by simp [wid]
theorem wid_append (p q : List (Nat × Nat)) : wid (p ++ q) = wid p + wid q := by simp [wid]

theorem wid_rs : ∀ l : List UInt8, wid (rs l) = l.length :=
  rs_induct rfl (fun l he ih => by
    rw [rs_step l he, wid_cons, ih]
    have := decodeL_le l he
    simp; omega)

theorem rs_length_le : ∀ l : List UInt8, (rs l).length ≤ l.length :=
  rs_induct (Nat.le_refl _) (fun l he ih => by
    rw [rs_step l he]
    have := decodeL_le l he
    have := decodeL_width l
    simp at ih ⊢; omega)

/-- Is each rune a true one? -/
theorem validD_rs : ∀ l : List UInt8, validD l = (rs l).all fun p => !(p.1 == 65533 && p.2 == 1) :=
  rs_induct (by simp [rs_nil]; rfl) (fun l he ih => by
    rw [validD_step l he, rs_step l he, List.all_cons, ← ih]
    by_cases h : (decodeL l).1 = 65533 ∧ (decodeL l).2 = 1
    · simp [h]
    · rw [if_neg h]
      have : ((decodeL l).1 == 65533 && (decodeL l).2 == 1) = false := by
        rw [Bool.eq_false_iff]; simpa using h
      simp [this])

/-! ### what is read off -/
def count (l : List UInt8) : Nat := (rs l).length

/-- The first n runes' bytes. -/
def cutL (l : List UInt8) (n : Int) : List UInt8 := if n < 1 then [] else l.take (wid ((rs l).take n.toNat))

def lower (r : Int) : Int :=
  if (65 ≤ r ∧ r ≤ 90) ∨ (192 ≤ r ∧ r ≤ 222 ∧ r ≠ 215) ∨ (913 ≤ r ∧ r ≤ 937 ∧ r ≠ 930) ∨ (1040 ≤ r ∧ r ≤ 1071) then r + 32 else r

def foldR (p : List (Nat × Nat)) : List UInt8 := p.flatMap fun q => encodeRune (lower q.1)
def foldL (l : List UInt8) : List UInt8 := foldR (rs l)

/-- No rune below a blank, none that is 127. -/
def plainB (p : List (Nat × Nat)) : Bool := p.all fun q => !(decide (q.1 < 32) || q.1 == 127)
def keyB (l : List UInt8) : Bool := plainB (rs l) && decide (1 ≤ count l) && decide (count l ≤ 40) && validD l

/-- The order of two lists of numbers. -/
def lessR : List Nat → List Nat → Option Bool
  | [], [] => none
  | [], _ :: _ => some true
  | _ :: _, [] => some false
  | x :: xs, y :: ys => if x = y then lessR xs ys else some (decide (x < y))

def bytesLess : List UInt8 → List UInt8 → Bool
  | [], [] => false
  | [], _ :: _ => true
  | _ :: _, [] => false
  | x :: xs, y :: ys => if x = y then bytesLess xs ys else decide (x < y)

end Ph

/-
  Plain law: what the statements of chapter 1 say of the runes of a text: prefixes, texts put together, folding, the order. No program in sight.
-/
set_option linter.unusedVariables false
namespace Ph
open Go Go.Lib

/-! ### how far the decoder looks -/
theorem getD_take (l : List UInt8) (k i : Nat) (h : i < k) : (l.take k).getD i 0 = l.getD i 0 := by
  simp [List.getD_eq_getElem?_getD, h]
theorem getD_take_ge (l : List UInt8) (k i : Nat) (h : k ≤ i) : (l.take k).getD i 0 = 0 := by
  simp [List.getD_eq_getElem?_getD, List.getElem?_take, Nat.not_lt.2 h]
theorem getD_append_lt (l t : List UInt8) (i : Nat) (h : i < l.length) : (l ++ t).getD i 0 = l.getD i 0 := by
  simp [List.getD_eq_getElem?_getD, List.getElem?_append_left h]

theorem decodeL_take (l : List UInt8) (k : Nat) (hk : 1 ≤ k) (hw : (decodeL l).2 ≤ k) (hl : 0 < l.length) : decodeL (l.take k) = decodeL l := by
  rw [decodeL_N] at hw ⊢
  rw [decodeL_N, getD_take l k 0 (by omega), List.length_take]
  rcases decodeN_shape l.length (l.getD 0 0).toNat (l.getD 1 0).toNat (l.getD 2 0).toNat (l.getD 3 0).toNat with ⟨c, e⟩ | ⟨c1, c2, c3, cv, e⟩ | ⟨c1, c2, c3, c4, cv, cs, e⟩ | ⟨c1, c2, c3, c4, c5, cv, cw, e⟩ | e
  · rw [e]; simp only [decodeN, if_pos c]
  · rw [e] at hw ⊢
    simp only at hw
    rw [getD_take l k 1 (by omega)]
    unfold decodeN
    rw [if_neg (by omega), if_pos ⟨c1, by omega, c3⟩, if_pos (by omega)]
  · rw [e] at hw ⊢
    simp only at hw
    rw [getD_take l k 1 (by omega), getD_take l k 2 (by omega)]
    have h3 := (l.getD 1 0).toNat_lt
    have h4 := (l.getD 2 0).toNat_lt
    unfold decodeN
    rw [if_neg (by omega), if_neg (by omega), if_pos ⟨c1, ⟨by omega, c3⟩, by omega, c4⟩, if_pos (by omega)]
  · rw [e] at hw ⊢
    simp only at hw
    rw [getD_take l k 1 (by omega), getD_take l k 2 (by omega), getD_take l k 3 (by omega)]
    unfold decodeN
    rw [if_neg (by omega), if_neg (by omega), if_neg (by omega), if_pos ⟨c1, ⟨by omega, c3⟩, ⟨by omega, c4⟩, by omega, c5⟩, if_pos (by omega)]
  · -- an error stays one in a shorter text
    rcases decodeN_shape (min k l.length) (l.getD 0 0).toNat ((l.take k).getD 1 0).toNat ((l.take k).getD 2 0).toNat ((l.take k).getD 3 0).toNat with ⟨c, e'⟩ | ⟨c1, c2, c3, cv, e'⟩ | ⟨c1, c2, c3, c4, cv, cs, e'⟩ | ⟨c1, c2, c3, c4, c5, cv, cw, e'⟩ | e'
    · simp only [decodeN, if_pos c]
    · exfalso
      rw [getD_take l k 1 (by omega)] at c3 cv
      unfold decodeN at e
      rw [if_neg (by omega), if_pos ⟨c1, by omega, c3⟩, if_pos (by omega)] at e
      simp at e
    · exfalso
      rw [getD_take l k 1 (by omega), getD_take l k 2 (by omega)] at cv
      rw [getD_take l k 1 (by omega)] at c3
      rw [getD_take l k 2 (by omega)] at c4
      rw [getD_take l k 1 (by omega), getD_take l k 2 (by omega)] at cs
      unfold decodeN at e
      rw [if_neg (by omega), if_neg (by omega), if_pos ⟨c1, ⟨by omega, c3⟩, by omega, c4⟩, if_pos (by omega)] at e
      simp at e
    · exfalso
      rw [getD_take l k 1 (by omega), getD_take l k 2 (by omega), getD_take l k 3 (by omega)] at cv cw
      rw [getD_take l k 1 (by omega)] at c3
      rw [getD_take l k 2 (by omega)] at c4
      rw [getD_take l k 3 (by omega)] at c5
      unfold decodeN at e
      rw [if_neg (by omega), if_neg (by omega), if_neg (by omega), if_pos ⟨c1, ⟨by omega, c3⟩, ⟨by omega, c4⟩, by omega, c5⟩, if_pos (by omega)] at e
      simp at e
    · rw [e', e]

/-- A true rune at a text's head is one whatever follows. -/
theorem decodeL_append (a t : List UInt8) (ha : a ≠ []) (hv : ¬ ((decodeL a).1 = 65533 ∧ (decodeL a).2 = 1)) : decodeL (a ++ t) = decodeL a := by
  have h0 : 0 < a.length := List.length_pos_iff.2 ha
  rw [decodeL_N] at hv
  rw [decodeL_N, decodeL_N a, getD_append_lt a t 0 h0, List.length_append]
  rcases decodeN_shape a.length (a.getD 0 0).toNat (a.getD 1 0).toNat (a.getD 2 0).toNat (a.getD 3 0).toNat with ⟨c, e⟩ | ⟨c1, c2, c3, cv, e⟩ | ⟨c1, c2, c3, c4, cv, cs, e⟩ | ⟨c1, c2, c3, c4, c5, cv, cw, e⟩ | e
  · rw [e]; simp only [decodeN, if_pos c]
  · rw [e]
    rw [getD_append_lt a t 1 (by omega)]
    unfold decodeN
    rw [if_neg (by omega), if_pos ⟨c1, by omega, c3⟩, if_pos (by omega)]
  · rw [e]
    rw [getD_append_lt a t 1 (by omega), getD_append_lt a t 2 (by omega)]
    have h3 := (a.getD 1 0).toNat_lt
    have h4 := (a.getD 2 0).toNat_lt
    unfold decodeN
    rw [if_neg (by omega), if_neg (by omega), if_pos ⟨c1, ⟨by omega, c3⟩, by omega, c4⟩, if_pos (by omega)]
  · rw [e]
    rw [getD_append_lt a t 1 (by omega), getD_append_lt a t 2 (by omega), getD_append_lt a t 3 (by omega)]
    unfold decodeN
    rw [if_neg (by omega), if_neg (by omega), if_neg (by omega), if_pos ⟨c1, ⟨by omega, c3⟩, ⟨by omega, c4⟩, by omega, c5⟩, if_pos (by omega)]
  · exact absurd ⟨by rw [e], by rw [e]⟩ hv

theorem validD_head {l : List UInt8} (he : l ≠ []) (h : validD l = true) : ¬ ((decodeL l).1 = 65533 ∧ (decodeL l).2 = 1) ∧ validD (l.drop (decodeL l).2) = true := by
  rw [validD_step l he] at h
  split at h
  · cases h
  · exact ⟨by assumption, h⟩

/-! ### two texts put together -/
theorem rs_append : ∀ a t : List UInt8, validD a = true → rs (a ++ t) = rs a ++ rs t := by
  intro a t
  refine rs_induct (motive := fun a => validD a = true → rs (a ++ t) = rs a ++ rs t) (fun _ => by simp [rs_nil]) (fun a he ih hv => ?_) a
  obtain ⟨h1, h2⟩ := validD_head he hv
  have hd := decodeL_append a t he h1
  have hle := decodeL_le a he
  rw [rs_step (a ++ t) (by simp [he]), rs_step a he, hd, List.drop_append_of_le_length hle, ih h2]
  rfl

theorem validD_append (a t : List UInt8) (h : validD a = true) : validD (a ++ t) = validD t := by
  have ha := validD_rs a
  rw [h] at ha
  rw [validD_rs, rs_append a t h, List.all_append, ← ha, validD_rs t]
  simp

/-- A byte from 0xf8 on is one rune, and none. -/
theorem decodeL_bad (c : UInt8) (t : List UInt8) (h : 248 ≤ c.toNat) : decodeL (c :: t) = (65533, 1) := by
  rw [decodeL_N]
  have := c.toNat_lt
  exact decodeN_bad _ _ _ _ _ (.inr (by simp; omega))
theorem rs_bad (c : UInt8) (t : List UInt8) (h : 248 ≤ c.toNat) : rs (c :: t) = (65533, 1) :: rs t := by
  rw [rs_step _ (by simp), decodeL_bad c t h]
  rfl

/-! ### cut at runes -/
theorem rs_split : ∀ (n : Nat) (l : List UInt8), rs (l.take (wid ((rs l).take n))) = (rs l).take n ∧ rs (l.drop (wid ((rs l).take n))) = (rs l).drop n
  | 0, l => by simp [wid_nil, rs_nil]
  | n + 1, l => by
    by_cases he : l = []
    · subst he; simp [rs_nil]
    · have hw := decodeL_width l
      have hle := decodeL_le l he
      have hp : 0 < l.length := List.length_pos_iff.2 he
      obtain ⟨i1, i2⟩ := rs_split n (l.drop (decodeL l).2)
      rw [rs_step l he, List.take_succ_cons, wid_cons, List.drop_succ_cons]
      constructor
      · have hd := decodeL_take l ((decodeL l).2 + wid (List.take n (rs (l.drop (decodeL l).2)))) (by omega) (by omega) hp
        have hne : l.take ((decodeL l).2 + wid (List.take n (rs (l.drop (decodeL l).2)))) ≠ [] := by
          intro hh
          have := congrArg List.length hh
          rw [List.length_take, List.length_nil] at this
          omega
        rw [rs_step _ hne, hd, List.drop_take, Nat.add_sub_cancel_left, i1]
      · rw [← List.drop_drop, i2]

theorem wid_take_le (l : List UInt8) (n : Nat) : wid ((rs l).take n) ≤ l.length := by
  have h := wid_rs l
  rw [← List.take_append_drop n (rs l), wid_append] at h
  omega

theorem cutL_count (l : List UInt8) (n : Int) : (count (cutL l n) : Int) = max 0 (min n (count l)) := by
  unfold cutL count
  split
  · simp [rs_nil]; omega
  · rw [(rs_split _ l).1]
    simp
    omega

theorem cutL_parts (l : List UInt8) (n : Int) : (cutL l n).length ≤ l.length ∧ l.take (cutL l n).length = cutL l n ∧ count (cutL l n) + count (l.drop (cutL l n).length) = count l := by
  unfold cutL
  split
  · simp [count, rs_nil]
  · have hw := wid_take_le l n.toNat
    have hl : (l.take (wid ((rs l).take n.toNat))).length = wid ((rs l).take n.toNat) := by simp; omega
    rw [hl]
    refine ⟨hw, rfl, ?_⟩
    unfold count
    rw [(rs_split _ l).1, (rs_split _ l).2]
    simp
    omega

theorem cutL_all (l : List UInt8) (n : Int) (h : (count l : Int) ≤ n) (h1 : 1 ≤ n) : cutL l n = l := by
  unfold cutL
  rw [if_neg (by omega), List.take_of_length_le (l := rs l) (by unfold count at h; omega), wid_rs]
  simp

/-! ### folding -/
theorem rune_valid (l : List UInt8) (he : l ≠ []) : (decodeL l).1 < 55296 ∨ (57344 ≤ (decodeL l).1 ∧ (decodeL l).1 ≤ 1114111) := by
  have hr := decodeL_rune l
  rw [decodeL_N] at hr ⊢
  have h3 := (l.getD 1 0).toNat_lt
  have h4 := (l.getD 2 0).toNat_lt
  rcases decodeN_shape l.length (l.getD 0 0).toNat (l.getD 1 0).toNat (l.getD 2 0).toNat (l.getD 3 0).toNat with ⟨c, e⟩ | ⟨c1, c2, c3, cv, e⟩ | ⟨c1, c2, c3, c4, cv, cs, e⟩ | ⟨c1, c2, c3, c4, c5, cv, cw, e⟩ | e
  all_goals (rw [e] at hr ⊢; dsimp only at hr ⊢; omega)

/-- A rune's bytes are read again. -/
def okRune (r : Int) : Prop := (0 ≤ r ∧ r < 55296) ∨ (57344 ≤ r ∧ r ≤ 1114111)

theorem u8 (z : Int) (h0 : 0 ≤ z) (h1 : z < 256) : (z.toNat.toUInt8).toNat = z.toNat := by
  simp; omega

theorem decode_encode (r : Int) (h : okRune r) (t : List UInt8) : decodeL (encodeRune r ++ t) = (r.toNat, (encodeRune r).length) := by
  unfold okRune at h
  obtain ⟨n, rfl⟩ := Int.eq_ofNat_of_zero_le (show 0 ≤ r by omega)
  rw [decodeL_N]
  unfold encodeRune
  by_cases a : n ≤ 127
  · rw [encodeRuneZ_one (by omega) (by omega)]
    simp only [List.map_cons, List.map_nil, List.cons_append, List.nil_append, List.getD_cons_zero, List.length_cons, List.length_nil]
    rw [u8 _ (by omega) (by omega), Int.toNat_natCast]
    unfold decodeN
    rw [if_pos (by omega)]
  · by_cases b : n ≤ 2047
    · rw [encodeRuneZ_two (by omega) (by omega)]
      simp only [List.map_cons, List.map_nil, List.cons_append, List.nil_append, List.getD_cons_zero, List.getD_cons_succ, List.length_cons, List.length_nil]
      rw [u8 _ (by omega) (by omega), u8 _ (by omega) (by omega), show (192 + (n : Int) / 64).toNat = 192 + n / 64 by omega, show (128 + (n : Int) % 64).toNat = 128 + n % 64 by omega, Int.toNat_natCast]
      unfold decodeN
      rw [if_neg (by omega), if_pos ⟨by omega, by omega, by omega⟩, if_pos (by omega)]
      exact congr (congrArg Prod.mk (by omega)) rfl
    · by_cases c : n ≤ 65535
      · rw [encodeRuneZ_three (by omega)]
        simp only [List.map_cons, List.map_nil, List.cons_append, List.nil_append, List.getD_cons_zero, List.getD_cons_succ, List.length_cons, List.length_nil]
        rw [u8 _ (by omega) (by omega), u8 _ (by omega) (by omega), u8 _ (by omega) (by omega), show (224 + (n : Int) / 4096).toNat = 224 + n / 4096 by omega, show (128 + (n : Int) / 64 % 64).toNat = 128 + n / 64 % 64 by omega, show (128 + (n : Int) % 64).toNat = 128 + n % 64 by omega, Int.toNat_natCast]
        unfold decodeN
        rw [if_neg (by omega), if_neg (by omega), if_pos ⟨by omega, ⟨by omega, by omega⟩, by omega, by omega⟩, if_pos (by omega)]
        exact congr (congrArg Prod.mk (by omega)) rfl
      · rw [encodeRuneZ_four (by omega) (by omega)]
        simp only [List.map_cons, List.map_nil, List.cons_append, List.nil_append, List.getD_cons_zero, List.getD_cons_succ, List.length_cons, List.length_nil]
        rw [u8 _ (by omega) (by omega), u8 _ (by omega) (by omega), u8 _ (by omega) (by omega), u8 _ (by omega) (by omega), show (240 + (n : Int) / 262144).toNat = 240 + n / 262144 by omega, show (128 + (n : Int) / 4096 % 64).toNat = 128 + n / 4096 % 64 by omega, show (128 + (n : Int) / 64 % 64).toNat = 128 + n / 64 % 64 by omega, show (128 + (n : Int) % 64).toNat = 128 + n % 64 by omega, Int.toNat_natCast]
        unfold decodeN
        rw [if_neg (by omega), if_neg (by omega), if_neg (by omega), if_pos ⟨by omega, ⟨by omega, by omega⟩, ⟨by omega, by omega⟩, by omega, by omega⟩, if_pos (by omega)]
        exact congr (congrArg Prod.mk (by omega)) rfl

theorem encode_len (r : Int) : 1 ≤ (encodeRune r).length := by
  have := encodeRuneZ_length r
  simp [encodeRune]; omega

theorem encode_len_err (r : Int) (h : okRune r) (he : r = 65533) : (encodeRune r).length = 3 := by
  subst he; decide

theorem lower_ok (r : Int) (h : okRune r) : okRune (lower r) := by
  unfold okRune at *
  unfold lower
  split <;> omega
theorem lower_lower (r : Int) : lower (lower r) = lower r := by
  unfold lower
  split
  · rw [if_neg (by omega)]
  · rfl
theorem lower_nonneg (r : Nat) : (0 : Int) ≤ lower r := by unfold lower; split <;> omega
theorem lower_plain (r : Nat) (h : ¬ (r < 32 ∨ r = 127)) : ¬ ((lower r).toNat < 32 ∨ (lower r).toNat = 127) := by
  unfold lower; split <;> omega

theorem okRune_of (l : List UInt8) (he : l ≠ []) : okRune ((decodeL l).1 : Int) := by
  have := rune_valid l he
  unfold okRune; omega

/-- The runes of a list of runes' bytes. -/
theorem rs_foldR : ∀ p : List (Nat × Nat), (∀ q ∈ p, okRune (q.1 : Int)) → rs (foldR p) = p.map fun q => ((lower q.1).toNat, (encodeRune (lower q.1)).length)
  | [], _ => rfl
  | q :: p, h => by
    have hq := lower_ok _ (h q (by simp))
    have hl := encode_len (lower q.1)
    have e : foldR (q :: p) = encodeRune (lower q.1) ++ foldR p := by simp [foldR]
    have hd := decode_encode _ hq (foldR p)
    have hne : encodeRune (lower q.1) ++ foldR p ≠ [] := by
      intro hh
      have := congrArg List.length hh
      rw [List.length_append, List.length_nil] at this
      omega
    rw [e, rs_step _ hne, hd, List.drop_left, rs_foldR p (fun x hx => h x (by simp [hx]))]
    rfl

theorem rs_ok : ∀ l : List UInt8, ∀ q ∈ rs l, okRune (q.1 : Int) :=
  rs_induct (by simp [rs_nil]) (fun l he ih q hq => by
    rw [rs_step l he] at hq
    rcases List.mem_cons.1 hq with rfl | hq
    · exact okRune_of l he
    · exact ih q hq)

theorem rs_foldL (l : List UInt8) : rs (foldL l) = (rs l).map fun q => ((lower q.1).toNat, (encodeRune (lower q.1)).length) := rs_foldR _ (rs_ok l)

theorem foldL_count (l : List UInt8) : count (foldL l) = count l := by simp [count, rs_foldL]

theorem foldL_valid (l : List UInt8) : validD (foldL l) = true := by
  rw [validD_rs, rs_foldL, List.all_map, List.all_eq_true]
  intro q hq
  have h0 := rs_ok l q hq
  have h1 := lower_ok _ h0
  simp only [Function.comp]
  by_cases h : lower q.1 = 65533
  · have := encode_len_err _ h1 h
    simp [this]
  · have : ¬ (lower q.1).toNat = 65533 := by
      have := lower_nonneg q.1
      omega
    simp [this]

theorem foldL_foldL (l : List UInt8) : foldL (foldL l) = foldL l := by
  show foldR (rs (foldL l)) = foldR (rs l)
  rw [rs_foldL]
  unfold foldR
  rw [List.flatMap_map]
  congr 1
  funext q
  have := lower_nonneg q.1
  have e : ((lower q.1).toNat : Int) = lower q.1 := by omega
  show encodeRune (lower ((lower q.1).toNat : Int)) = _
  rw [e, lower_lower]

theorem foldL_key (l : List UInt8) (h : keyB l = true) : keyB (foldL l) = true := by
  unfold keyB at *
  simp only [Bool.and_eq_true, decide_eq_true_eq] at h ⊢
  obtain ⟨⟨⟨h1, h2⟩, h3⟩, h4⟩ := h
  rw [foldL_count]
  refine ⟨⟨⟨?_, h2⟩, h3⟩, foldL_valid l⟩
  unfold plainB at *
  rw [rs_foldL, List.all_map, List.all_eq_true]
  intro q hq
  have := List.all_eq_true.1 h1 q hq
  simp at this
  have h5 := lower_plain q.1 (by omega)
  simp only [Function.comp]
  simp
  omega

theorem foldL_append (a t : List UInt8) (h : validD a = true) : foldL (a ++ t) = foldL a ++ foldL t := by
  unfold foldL foldR
  rw [rs_append a t h, List.flatMap_append]

/-! ### the order -/
theorem lessR_none : ∀ {x y : List Nat}, lessR x y = none → x = y
  | [], [], _ => rfl
  | [], _ :: _, h => by simp [lessR] at h
  | _ :: _, [], h => by simp [lessR] at h
  | a :: x, b :: y, h => by
    simp only [lessR] at h
    split at h
    · rw [lessR_none h]; congr
    · cases h
theorem lessR_self : ∀ x : List Nat, lessR x x = none
  | [] => rfl
  | a :: x => by simp [lessR, lessR_self x]
theorem lessR_swap : ∀ {x y : List Nat} {b : Bool}, lessR x y = some b → lessR y x = some (!b)
  | [], [], _, h => by simp [lessR] at h
  | [], _ :: _, _, h => by simp [lessR] at h; subst h; rfl
  | _ :: _, [], _, h => by simp [lessR] at h; subst h; rfl
  | a :: x, c :: y, b, h => by
    simp only [lessR] at h ⊢
    by_cases e : a = c
    · rw [if_pos e] at h
      rw [if_pos e.symm]
      exact lessR_swap h
    · rw [if_neg e] at h
      rw [if_neg (Ne.symm e)]
      simp only [Option.some.injEq] at h ⊢
      rw [← h]
      by_cases hlt : a < c <;> simp [hlt] <;> omega
theorem lessR_trans : ∀ {x y z : List Nat}, lessR x y = some true → lessR y z = some true → lessR x z = some true
  | [], [], _, h, _ => by simp [lessR] at h
  | [], _ :: _, [], _, h => by simp [lessR] at h
  | [], _ :: _, _ :: _, _, _ => rfl
  | _ :: _, [], _, h, _ => by simp [lessR] at h
  | _ :: _, _ :: _, [], _, h => by simp [lessR] at h
  | a :: x, b :: y, c :: z, h, h' => by
    simp only [lessR] at h h' ⊢
    by_cases e : a = b
    · rw [if_pos e] at h
      by_cases e' : b = c
      · rw [if_pos e'] at h'
        rw [if_pos (e.trans e')]
        exact lessR_trans h h'
      · rw [if_neg e'] at h'
        simp at h'
        rw [if_neg (by omega)]
        simp; omega
    · rw [if_neg e] at h
      simp at h
      by_cases e' : b = c
      · rw [if_pos e'] at h'
        rw [if_neg (by omega)]
        simp; omega
      · rw [if_neg e'] at h'
        simp at h'
        rw [if_neg (by omega)]
        simp; omega

theorem bytesLess_irr : ∀ x : List UInt8, bytesLess x x = false
  | [] => rfl
  | a :: x => by simp [bytesLess, bytesLess_irr x]
theorem bytesLess_total : ∀ x y : List UInt8, x ≠ y → (bytesLess x y || bytesLess y x) = true
  | [], [], h => absurd rfl h
  | [], _ :: _, _ => rfl
  | _ :: _, [], _ => rfl
  | a :: x, b :: y, h => by
    simp only [bytesLess]
    by_cases e : a = b
    · subst e
      simp only [if_true]
      exact bytesLess_total x y (fun hh => h (by rw [hh]))
    · rw [if_neg e, if_neg (Ne.symm e)]
      simp only [Bool.or_eq_true, decide_eq_true_eq, UInt8.lt_iff_toNat_lt]
      have : a.toNat ≠ b.toNat := fun hh => e (UInt8.toNat_inj.1 hh)
      omega
theorem bytesLess_asymm : ∀ x y : List UInt8, bytesLess x y = true → bytesLess y x = false
  | [], [], h => by simp [bytesLess] at h
  | [], _ :: _, _ => rfl
  | _ :: _, [], h => by simp [bytesLess] at h
  | a :: x, b :: y, h => by
    simp only [bytesLess] at h ⊢
    by_cases e : a = b
    · rw [if_pos e] at h
      rw [if_pos e.symm]
      exact bytesLess_asymm x y h
    · rw [if_neg e] at h
      rw [if_neg (Ne.symm e)]
      simp only [decide_eq_true_eq, decide_eq_false_iff_not, UInt8.lt_iff_toNat_lt] at h ⊢
      omega
theorem bytesLess_trans : ∀ x y z : List UInt8, bytesLess x y = true → bytesLess y z = true → bytesLess x z = true
  | [], [], _, h, _ => by simp [bytesLess] at h
  | [], _ :: _, [], _, h => by simp [bytesLess] at h
  | [], _ :: _, _ :: _, _, _ => rfl
  | _ :: _, [], _, h, _ => by simp [bytesLess] at h
  | _ :: _, _ :: _, [], _, h => by simp [bytesLess] at h
  | a :: x, b :: y, c :: z, h, h' => by
    simp only [bytesLess] at h h' ⊢
    by_cases e : a = b
    · rw [if_pos e] at h
      by_cases e' : b = c
      · rw [if_pos e'] at h'
        rw [if_pos (e.trans e')]
        exact bytesLess_trans x y z h h'
      · rw [if_neg e'] at h'
        subst e
        rw [if_neg e']
        exact h'
    · rw [if_neg e] at h
      simp only [decide_eq_true_eq, UInt8.lt_iff_toNat_lt] at h
      by_cases e' : b = c
      · subst e'
        rw [if_neg e]
        simpa [UInt8.lt_iff_toNat_lt] using h
      · rw [if_neg e'] at h'
        simp only [decide_eq_true_eq, UInt8.lt_iff_toNat_lt] at h'
        have : a ≠ c := fun hh => by subst hh; omega
        rw [if_neg this]
        simp only [decide_eq_true_eq, UInt8.lt_iff_toNat_lt]
        omega

/-- The order of two texts: by their runes, else by their bytes. -/
def lessL (a b : List UInt8) : Bool :=
  match lessR ((rs a).map (·.1)) ((rs b).map (·.1)) with
  | some x => x
  | none => bytesLess a b

theorem lessL_asymm (a b : List UInt8) (h : lessL a b = true) : lessL b a = false := by
  unfold lessL at *
  cases e : lessR ((rs a).map (·.1)) ((rs b).map (·.1)) with
  | some x =>
    rw [e] at h
    rw [lessR_swap e]
    simp at h
    simp [h]
  | none =>
    rw [e] at h
    have e2 := lessR_none e
    rw [e2, lessR_self]
    exact bytesLess_asymm a b h
theorem lessL_total (a b : List UInt8) (h : a ≠ b) : (lessL a b || lessL b a) = true := by
  unfold lessL at *
  cases e : lessR ((rs a).map (·.1)) ((rs b).map (·.1)) with
  | some x =>
    rw [lessR_swap e]
    cases x <;> rfl
  | none =>
    have e2 := lessR_none e
    rw [e2, lessR_self]
    exact bytesLess_total a b h
theorem lessL_trans (a b c : List UInt8) (h : lessL a b = true) (h' : lessL b c = true) : lessL a c = true := by
  unfold lessL at *
  cases e : lessR ((rs a).map (·.1)) ((rs b).map (·.1)) with
  | some x =>
    rw [e] at h
    simp at h
    subst h
    cases e' : lessR ((rs b).map (·.1)) ((rs c).map (·.1)) with
    | some y =>
      rw [e'] at h'
      simp at h'
      subst h'
      rw [lessR_trans e e']
    | none =>
      rw [← lessR_none e', e]
  | none =>
    rw [e] at h
    rw [lessR_none e]
    cases e' : lessR ((rs b).map (·.1)) ((rs c).map (·.1)) with
    | some y => rw [e'] at h'; exact h'
    | none =>
      rw [e'] at h'
      exact bytesLess_trans a b c h h'
theorem lessL_irr (a : List UInt8) : lessL a a = false := by
  unfold lessL
  rw [lessR_self]
  exact bytesLess_irr a

/-- What is longer is not less. -/
theorem lessR_append : ∀ x y : List Nat, lessR (x ++ y) x = if y = [] then none else some false
  | [], [] => rfl
  | [], _ :: _ => rfl
  | a :: x, y => by simp [lessR, lessR_append x y]
theorem lessL_append (a t : List UInt8) (h : validD a = true) : lessL (a ++ t) a = false := by
  unfold lessL
  rw [rs_append a t h, List.map_append, lessR_append]
  by_cases e : t = []
  · subst e; simp [rs_nil, bytesLess_irr]
  · have : rs t ≠ [] := fun hh => e (rs_eq_nil hh)
    simp [this]
end Ph

/-
  Plain law: one step of a range over a string, in the words of the runes' list.
-/
namespace Ph
open Go Go.Lib

theorem rs_at (s : ByteArray) (pos : Nat) (h : pos < s.size) : rs (s.data.toList.drop pos) = Utf8.decode s pos :: rs (s.data.toList.drop (pos + (Utf8.decode s pos).2)) := by
  have hne : s.data.toList.drop pos ≠ [] := by
    intro hh
    have := congrArg List.length hh
    rw [List.length_drop, List.length_nil, Array.length_toList] at this
    have : s.data.size = s.size := rfl
    omega
  rw [rs_step _ hne, decodeL_drop, List.drop_drop]

theorem rs_end (s : ByteArray) (pos : Nat) (h : ¬ pos < s.size) : rs (s.data.toList.drop pos) = [] := by
  have : s.data.toList.drop pos = [] := by
    apply List.drop_eq_nil_of_le
    rw [Array.length_toList]
    have : s.data.size = s.size := rfl
    omega
  rw [this, rs_nil]

theorem width_pos (s : ByteArray) (pos : Nat) : 1 ≤ (Utf8.decode s pos).2 := by
  rw [← decodeL_drop]
  exact decodeL_width _

theorem width_le (s : ByteArray) (pos : Nat) (h : pos < s.size) : pos + (Utf8.decode s pos).2 ≤ s.size := by
  rw [← decodeL_drop]
  have hne : s.data.toList.drop pos ≠ [] := by
    intro hh
    have := congrArg List.length hh
    rw [List.length_drop, List.length_nil, Array.length_toList] at this
    have : s.data.size = s.size := rfl
    omega
  have := decodeL_le _ hne
  rw [List.length_drop, Array.length_toList] at this
  have : s.data.size = s.size := rfl
  omega

theorem rune_le (s : ByteArray) (pos : Nat) : (Utf8.decode s pos).1 ≤ 1114111 := by
  rw [← decodeL_drop]
  exact decodeL_rune _

theorem len_toList (s : ByteArray) : s.data.toList.length = s.size := by
  rw [Array.length_toList]; rfl

theorem count_le (s : ByteArray) : count s.data.toList ≤ s.size := by
  have := rs_length_le s.data.toList
  rw [len_toList] at this
  exact this

/-- The bytes from place 0 to a rune's place. -/
theorem extract_take (s : ByteArray) (k : Nat) : (s.extract 0 k).data.toList = s.data.toList.take k := by
  simp
theorem extract_eq (s : ByteArray) (k : Nat) : s.extract 0 k = ⟨(s.data.toList.take k).toArray⟩ := by
  rw [← extract_take]
theorem eta_bytes (s : ByteArray) : (⟨s.data.toList.toArray⟩ : ByteArray) = s := by cases s; simp

theorem step_take {α : Type} {L : List α} {k : Nat} {d : α} {T : List α} (h : L.drop k = d :: T) : k < L.length ∧ L.take (k + 1) = L.take k ++ [d] ∧ L.drop (k + 1) = T := by
  have hk : k < L.length := by
    rcases Nat.lt_or_ge k L.length with h1 | h1
    · exact h1
    · rw [List.drop_eq_nil_of_le h1] at h; cases h
  rw [List.drop_eq_getElem_cons hk] at h
  injection h with h1 h2
  exact ⟨hk, by rw [List.take_succ_eq_append_getElem hk, h1], h2⟩
theorem drop_nil_le {α : Type} {L : List α} {k : Nat} (h : L.drop k = []) : L.length ≤ k := by
  have := congrArg List.length h
  rw [List.length_drop, List.length_nil] at this
  omega
theorem rs_small : ∀ l : List UInt8, ∀ q ∈ rs l, q.1 ≤ 1114111 :=
  rs_induct (by simp [rs_nil]) (fun l he ih q hq => by
    rw [rs_step l he] at hq
    rcases List.mem_cons.1 hq with rfl | hq
    · exact decodeL_rune l
    · exact ih q hq)
theorem plainB_cons (d : Nat × Nat) (T : List (Nat × Nat)) : plainB (d :: T) = (!(decide (d.1 < 32) || d.1 == 127) && plainB T) := rfl
theorem plainB_bad {d : Nat × Nat} {T : List (Nat × Nat)} (h : d.1 < 32 ∨ d.1 = 127) : plainB (d :: T) = false := by
  rw [plainB_cons]
  rcases h with h | h <;> simp [h]
theorem plainB_good {d : Nat × Nat} {T : List (Nat × Nat)} (h : ¬ (d.1 < 32 ∨ d.1 = 127)) : plainB (d :: T) = plainB T := by
  rw [plainB_cons]
  have h1 : ¬ d.1 < 32 := fun x => h (.inl x)
  have h2 : ¬ d.1 = 127 := fun x => h (.inr x)
  simp [h1, h2]
theorem keyB_bad {l : List UInt8} (h : plainB (rs l) = false) : keyB l = false := by simp [keyB, h]
theorem keyB_all {l : List UInt8} (h : plainB (rs l) = true) : keyB l = (decide (1 ≤ count l) && decide (count l ≤ 40) && validD l) := by simp [keyB, h]
theorem keyB_short {l : List UInt8} (h : ¬ (1 ≤ count l ∧ count l ≤ 40)) : keyB l = false := by
  unfold keyB
  by_cases h1 : 1 ≤ count l
  · have h2 : ¬ count l ≤ 40 := fun x => h ⟨h1, x⟩
    simp [h2]
  · simp [h1]
theorem keyB_long {l : List UInt8} (hp : plainB (rs l) = true) (h1 : 1 ≤ count l) (h2 : count l ≤ 40) : keyB l = validD l := by simp [keyB, hp, h1, h2]

/-- The model's order of texts' bytes is ours. -/
theorem bytesLess_eq : ∀ a b : List UInt8, Op.bytesLess a b = bytesLess a b
  | [], [] => rfl
  | [], _ :: _ => rfl
  | _ :: _, [] => rfl
  | a :: x, b :: y => by
    simp only [Op.bytesLess, bytesLess, bytesLess_eq x y]
    by_cases e : a = b
    · subst e; simp
    · simp [e]
theorem bytesLess_toList (a b : ByteArray) : Op.bytesLess a.toList b.toList = bytesLess a.data.toList b.data.toList := by
  rw [ByteArray.toList_eq, ByteArray.toList_eq, bytesLess_eq]

/-- The order, begun at any pair of places. -/
def lessAt (a b x y : List UInt8) : Bool :=
  match lessR ((rs x).map (·.1)) ((rs y).map (·.1)) with
  | some z => z
  | none => bytesLess a b
theorem lessAt_all (a b : List UInt8) : lessAt a b a b = lessL a b := rfl
theorem lessAt_none (a b : List UInt8) : lessAt a b [] [] = bytesLess a b := rfl
theorem lessAt_left (a b y : List UInt8) (h : y ≠ []) : lessAt a b [] y = true := by
  unfold lessAt
  rw [rs_step y h]; rfl
theorem lessAt_right (a b x : List UInt8) (h : x ≠ []) : lessAt a b x [] = false := by
  unfold lessAt
  rw [rs_step x h]; rfl
theorem lessAt_ne (a b x y : List UInt8) (hx : x ≠ []) (hy : y ≠ []) (h : (decodeL x).1 ≠ (decodeL y).1) : lessAt a b x y = decide ((decodeL x).1 < (decodeL y).1) := by
  unfold lessAt
  rw [rs_step x hx, rs_step y hy]
  simp [lessR, h]
theorem lessAt_eq (a b x y : List UInt8) (hx : x ≠ []) (hy : y ≠ []) (h : (decodeL x).1 = (decodeL y).1) : lessAt a b x y = lessAt a b (x.drop (decodeL x).2) (y.drop (decodeL y).2) := by
  unfold lessAt
  rw [rs_step x hx, rs_step y hy]
  simp [lessR, h]
/-- The same over the runes' lists. -/
def lessD (a b : List UInt8) (x y : List (Nat × Nat)) : Bool :=
  match lessR (x.map (·.1)) (y.map (·.1)) with
  | some z => z
  | none => bytesLess a b
theorem lessD_all (a b : List UInt8) : lessL a b = lessD a b (rs a) (rs b) := rfl
theorem lessD_nn (a b : List UInt8) : lessD a b [] [] = bytesLess a b := rfl
theorem lessD_nc (a b : List UInt8) {x y : List (Nat × Nat)} (hx : x.length = 0) (hy : 0 < y.length) : lessD a b x y = true := by
  match x, y, hx, hy with
  | [], q :: y, _, _ => rfl
theorem lessD_cn (a b : List UInt8) {x y : List (Nat × Nat)} (hx : 0 < x.length) (hy : y.length = 0) : lessD a b x y = false := by
  match x, y, hx, hy with
  | q :: x, [], _, _ => rfl
theorem lessD_ne (a b : List UInt8) (p q : Nat × Nat) (x y : List (Nat × Nat)) (h : p.1 ≠ q.1) : lessD a b (p :: x) (q :: y) = decide (p.1 < q.1) := by simp [lessD, lessR, h]
theorem lessD_eq (a b : List UInt8) (p q : Nat × Nat) (x y : List (Nat × Nat)) (h : p.1 = q.1) : lessD a b (p :: x) (q :: y) = lessD a b x y := by simp [lessD, lessR, h]
theorem ne_of_size {s : ByteArray} (h : 0 < s.size) : s.data.toList ≠ [] := by
  intro hh
  have := len_toList s
  rw [hh, List.length_nil] at this
  omega
theorem nil_of_size {s : ByteArray} (h : ¬ 0 < s.size) : s.data.toList = [] := List.length_eq_zero_iff.1 (by rw [len_toList]; omega)
theorem isEmpty_toList (s : ByteArray) : s.toList.isEmpty = decide (s.size = 0) := by
  rw [ByteArray.toList_eq]
  by_cases h : s.size = 0
  · rw [nil_of_size (by omega)]
    simp [h]
  · have := ne_of_size (s := s) (by omega)
    cases e : s.data.toList with
    | nil => exact absurd e this
    | cons a l => simp [h]
theorem empty_no {s : ByteArray} (h : 0 < s.size) : s.toList.isEmpty = false := by rw [isEmpty_toList]; exact decide_eq_false (by omega)
theorem empty_yes {s : ByteArray} (h : ¬ 0 < s.size) : s.toList.isEmpty = true := by rw [isEmpty_toList]; exact decide_eq_true (by omega)
theorem extract_drop (s : ByteArray) (k : Nat) : (s.extract k s.size).data.toList = s.data.toList.drop k := by
  have : s.data.toList.length = s.size := len_toList s
  simp
  rw [List.take_of_length_le (by rw [List.length_drop]; omega)]

theorem foldR_snoc (p : List (Nat × Nat)) (q : Nat × Nat) : foldR (p ++ [q]) = foldR p ++ encodeRune (lower q.1) := by simp [foldR]
theorem foldR_len : ∀ p : List (Nat × Nat), (foldR p).length ≤ 4 * p.length
  | [] => by simp [foldR]
  | q :: p => by
    have h := foldR_len p
    have h1 := encodeRuneZ_length (lower q.1)
    have e : foldR (q :: p) = encodeRune (lower q.1) ++ foldR p := by simp [foldR]
    rw [e, List.length_append, List.length_cons]
    have h2 : (encodeRune (lower q.1)).length = (encodeRuneZ (lower q.1)).length := by simp [encodeRune]
    omega
theorem lower_range (r : Nat) (h : r ≤ 1114111) : -2147483648 ≤ lower r ∧ lower r ≤ 2147483647 := by unfold lower; split <;> omega

/-- The first rune and its bytes; of nothing: U+FFFD, no byte. -/
def decZ (l : List UInt8) : Nat × Nat := if l = [] then (65533, 0) else decodeL l
theorem decZ_at (s : ByteArray) (hp : 0 < s.size) : decZ s.data.toList = Utf8.decode s 0 ∧ (cutL s.data.toList 1).length = (Utf8.decode s 0).2 := by
  have hne : s.data.toList ≠ [] := by
    intro hh
    have := len_toList s
    rw [hh, List.length_nil] at this
    omega
  have h0 := decodeL_drop s 0
  rw [List.drop_zero] at h0
  have hle := decodeL_le _ hne
  refine ⟨by unfold decZ; rw [if_neg hne, h0], ?_⟩
  unfold cutL
  rw [if_neg (by omega), rs_step _ hne]
  show (List.take (wid (List.take 1 _)) _).length = _
  rw [List.take_succ_cons, List.take_zero, wid_cons, wid_nil, List.length_take, ← h0]
  omega
theorem decZ_ne {s : ByteArray} (h : 0 < s.size) : decZ s.data.toList = decodeL s.data.toList ∧ 1 ≤ (decZ s.data.toList).2 ∧ (decZ s.data.toList).2 ≤ s.size := by
  have hne := ne_of_size h
  have e : decZ s.data.toList = decodeL s.data.toList := by unfold decZ; rw [if_neg hne]
  rw [e]
  have h1 := decodeL_width s.data.toList
  have h2 := decodeL_le _ hne
  rw [len_toList] at h2
  exact ⟨rfl, h1, h2⟩
theorem decZ_empty (s : ByteArray) (hp : ¬ 0 < s.size) : decZ s.data.toList = (65533, 0) := by
  have : s.data.toList = [] := List.length_eq_zero_iff.1 (by rw [len_toList]; omega)
  rw [this]; rfl
end Ph

/-
  DERIVED: THE SHELF's CONTRACTS AT THIS DUMP, IN PLAIN WORDS (tools/lay-plain.mjs out of 'TrydShelf.lean', which tools/lay-shelf.mjs wrote): THE SAME DECLARATIONS UNDER THE SAME NAMES: 'import', 'namespace', 'open', 'def', 'theorem' AND NOTHING ELSE: no command of the shelf's: FOR A HAND-IN. Each laying: the table of numbers ('.._ren') and one theorem, a field a fact of the dump's own or the kernel's comparison; each contract: ONE APPLICATION.
-/
namespace Go.Proofs
open Go.Shelf
def Tryd.laysValid_ren : Go.Shelf.Ren := ⟨fun | 196 => 82 | 259 => 93 | n => n, fun | 9 => 9 | 4 => 4 | 3 => 3 | 5 => 5 | 12 => 12 | 119 => 143 | 0 => 0 | 46 => 124 | 139 => 146 | 138 => 145 | 53 => 123 | n => n, fun | 3 => 0 | 4 => 1 | n => n⟩
theorem Tryd.laysValid : Go.Proofs.Lays.n196 Tryd.prog Tryd.laysValid_ren := {
  mixed := by kernel_rfl
  f196 := Tryd.func82.trans (congrArg some (by kernel_rfl))
  f259 := Tryd.func93.trans (congrArg some (by kernel_rfl))
  t0 := Tryd.underlying0
  a0 := Tryd.isAgg0
  z0 := Tryd.sizeOf0
  v0 := Tryd.zeroValue0
  t3 := Tryd.underlying3
  a3 := Tryd.isAgg3
  z3 := Tryd.sizeOf3
  v3 := Tryd.zeroValue3
  t4 := Tryd.underlying4
  a4 := Tryd.isAgg4
  z4 := Tryd.sizeOf4
  v4 := Tryd.zeroValue4
  t5 := Tryd.underlying5
  a5 := Tryd.isAgg5
  z5 := Tryd.sizeOf5
  v5 := Tryd.zeroValue5
  t9 := Tryd.underlying9
  a9 := Tryd.isAgg9
  z9 := Tryd.sizeOf9
  v9 := Tryd.zeroValue9
  t12 := Tryd.underlying12
  a12 := Tryd.isAgg12
  z12 := Tryd.sizeOf12
  v12 := Tryd.zeroValue12
  t46 := Tryd.underlying124
  a46 := Tryd.isAgg124
  z46 := Tryd.sizeOf124
  v46 := Tryd.zeroValue124
  t53 := Tryd.underlying123
  a53 := Tryd.isAgg123
  z53 := Tryd.sizeOf123
  v53 := Tryd.zeroValue123
  t119 := Tryd.underlying143
  a119 := Tryd.isAgg143
  z119 := Tryd.sizeOf143
  t138 := Tryd.underlying145
  a138 := Tryd.isAgg145
  z138 := Tryd.sizeOf145
  v138 := Tryd.zeroValue145
  t139 := Tryd.underlying146
  a139 := Tryd.isAgg146
  z139 := Tryd.sizeOf146
  v139 := Tryd.zeroValue146
  g3 := by kernel_rfl
  g4 := by kernel_rfl }
open Go.RowKit in
theorem Tryd.utf8_ValidString (s : ByteArray) (w : World) (hs : s.size ≤ 9223372036854775807) (hT : Lib.Utf8Tabs 0 1 w) :
    Calls Tryd.prog 82 #[.string s] w fun e w' => e = .returned (.bool (Lib.validD s.data.toList)) ∧ Below w.heap.size w w' := Any.utf8_ValidString Tryd.laysValid s w hs hT
def Tryd.lays128_ren : Go.Shelf.Ren := ⟨fun | 128 => 91 | n => n, fun | 51 => 140 | 3 => 3 | 4 => 4 | 46 => 124 | 5 => 5 | 9 => 9 | n => n, fun | n => n⟩
theorem Tryd.lays128 : Go.Proofs.Lays.n128 Tryd.prog Tryd.lays128_ren := {
  mixed := by kernel_rfl
  f128 := Tryd.func91.trans (congrArg some (by kernel_rfl))
  t3 := Tryd.underlying3
  a3 := Tryd.isAgg3
  z3 := Tryd.sizeOf3
  v3 := Tryd.zeroValue3
  t4 := Tryd.underlying4
  a4 := Tryd.isAgg4
  z4 := Tryd.sizeOf4
  v4 := Tryd.zeroValue4
  t5 := Tryd.underlying5
  a5 := Tryd.isAgg5
  z5 := Tryd.sizeOf5
  v5 := Tryd.zeroValue5
  t9 := Tryd.underlying9
  a9 := Tryd.isAgg9
  z9 := Tryd.sizeOf9
  v9 := Tryd.zeroValue9
  t46 := Tryd.underlying124
  a46 := Tryd.isAgg124
  z46 := Tryd.sizeOf124
  v46 := Tryd.zeroValue124
  t51 := Tryd.underlying140
  a51 := Tryd.isAgg140
  z51 := Tryd.sizeOf140
  v51 := Tryd.zeroValue140 }
/-- bits.Len32: "Len32 returns the minimum number of bits required to represent x; the result is 0 for x == 0.": IT RETURNS 'Lib.bitLen x'; the world is as it was. ('h0', 'h1': x is a uint32.) (LAID: no walk: one application.) -/
theorem Tryd.bits_Len32 (x : Int) (w : World) (h0 : 0 ≤ x) (h1 : x ≤ 4294967295) :
    Calls Tryd.prog 91 #[.int .u32 x] w fun e w' => e = .returned (.int .i64 (Lib.bitLen x.toNat)) ∧ w' = w := Any.bits_Len32 Tryd.lays128 x w h0 h1
def Tryd.lays125_ren : Go.Shelf.Ren := ⟨fun | 125 => 80 | 128 => 91 | 129 => 92 | n => n, fun | 46 => 124 | 3 => 3 | 51 => 140 | 53 => 123 | 4 => 4 | 5 => 5 | 9 => 9 | n => n, fun | n => n⟩
theorem Tryd.lays125 : Go.Proofs.Lays.n125 Tryd.prog Tryd.lays125_ren := {
  mixed := by kernel_rfl
  f125 := Tryd.func80.trans (congrArg some (by kernel_rfl))
  f128 := Tryd.func91.trans (congrArg some (by kernel_rfl))
  f129 := Tryd.func92.trans (congrArg some (by kernel_rfl))
  t3 := Tryd.underlying3
  a3 := Tryd.isAgg3
  z3 := Tryd.sizeOf3
  v3 := Tryd.zeroValue3
  t4 := Tryd.underlying4
  a4 := Tryd.isAgg4
  z4 := Tryd.sizeOf4
  v4 := Tryd.zeroValue4
  t5 := Tryd.underlying5
  a5 := Tryd.isAgg5
  z5 := Tryd.sizeOf5
  v5 := Tryd.zeroValue5
  t9 := Tryd.underlying9
  a9 := Tryd.isAgg9
  z9 := Tryd.sizeOf9
  v9 := Tryd.zeroValue9
  t46 := Tryd.underlying124
  a46 := Tryd.isAgg124
  z46 := Tryd.sizeOf124
  v46 := Tryd.zeroValue124
  t51 := Tryd.underlying140
  a51 := Tryd.isAgg140
  z51 := Tryd.sizeOf140
  v51 := Tryd.zeroValue140
  t53 := Tryd.underlying123
  a53 := Tryd.isAgg123
  z53 := Tryd.sizeOf123
  v53 := Tryd.zeroValue123 }
/-- bits.Len: "Len returns the minimum number of bits required to represent x; the result is 0 for x == 0.": IT RETURNS 'Lib.bitLen x'; the world is as it was. (A uint has 64 bits in the model.) ITS CALLEE bits.Len64 IS MET BY ITS OWN CONTRACT OFF THE SHELF (lay that first). (LAID: no walk: one application.) -/
theorem Tryd.bits_Len (x : Int) (w : World) (h0 : 0 ≤ x) (h1 : x ≤ 18446744073709551615) :
    Calls Tryd.prog 80 #[.int .u64 x] w fun e w' => e = .returned (.int .i64 (Lib.bitLen x.toNat)) ∧ w' = w := Any.bits_Len Tryd.lays125 x w h0 h1
def Tryd.lays129_ren : Go.Shelf.Ren := ⟨fun | 129 => 92 | n => n, fun | 53 => 123 | 3 => 3 | 4 => 4 | 46 => 124 | 5 => 5 | 9 => 9 | n => n, fun | n => n⟩
theorem Tryd.lays129 : Go.Proofs.Lays.n129 Tryd.prog Tryd.lays129_ren := {
  mixed := by kernel_rfl
  f129 := Tryd.func92.trans (congrArg some (by kernel_rfl))
  t3 := Tryd.underlying3
  a3 := Tryd.isAgg3
  z3 := Tryd.sizeOf3
  v3 := Tryd.zeroValue3
  t4 := Tryd.underlying4
  a4 := Tryd.isAgg4
  z4 := Tryd.sizeOf4
  v4 := Tryd.zeroValue4
  t5 := Tryd.underlying5
  a5 := Tryd.isAgg5
  z5 := Tryd.sizeOf5
  v5 := Tryd.zeroValue5
  t9 := Tryd.underlying9
  a9 := Tryd.isAgg9
  z9 := Tryd.sizeOf9
  v9 := Tryd.zeroValue9
  t46 := Tryd.underlying124
  a46 := Tryd.isAgg124
  z46 := Tryd.sizeOf124
  v46 := Tryd.zeroValue124
  t53 := Tryd.underlying123
  a53 := Tryd.isAgg123
  z53 := Tryd.sizeOf123
  v53 := Tryd.zeroValue123 }
/-- bits.Len64: "Len64 returns the minimum number of bits required to represent x; the result is 0 for x == 0.": IT RETURNS 'Lib.bitLen x'; the world is as it was. ('h0', 'h1': x is a uint64.) (LAID: no walk: one application.) -/
theorem Tryd.bits_Len64 (x : Int) (w : World) (h0 : 0 ≤ x) (h1 : x ≤ 18446744073709551615) :
    Calls Tryd.prog 92 #[.int .u64 x] w fun e w' => e = .returned (.int .i64 (Lib.bitLen x.toNat)) ∧ w' = w := Any.bits_Len64 Tryd.lays129 x w h0 h1
def Tryd.lays115_ren : Go.Shelf.Ren := ⟨fun | 115 => 59 | n => n, fun | 37 => 44 | 4 => 4 | 9 => 9 | 5 => 5 | n => n, fun | n => n⟩
theorem Tryd.lays115 : Go.Proofs.Lays.n115 Tryd.prog Tryd.lays115_ren := {
  mixed := by kernel_rfl
  f115 := Tryd.func59.trans (congrArg some (by kernel_rfl))
  t4 := Tryd.underlying4
  a4 := Tryd.isAgg4
  z4 := Tryd.sizeOf4
  v4 := Tryd.zeroValue4
  t9 := Tryd.underlying9
  a9 := Tryd.isAgg9
  z9 := Tryd.sizeOf9
  v9 := Tryd.zeroValue9
  t37 := Tryd.underlying44
  a37 := Tryd.isAgg44
  z37 := Tryd.sizeOf44
  v37 := Tryd.zeroValue44 }
open Go.Proofs Go.RowKit Go.Lib in
/-- bytes.Equal, each argument with what 'string(..)' of it gives. (LAID: no walk: one application.) -/
theorem Tryd.bytes_Equal_strs (v1 v2 : Value) (t1 t2 : ByteArray) (w : World) (h1 : (convert 44 9 v1).run Tryd.prog w = .ok (.string t1) w) (h2 : (convert 44 9 v2).run Tryd.prog w = .ok (.string t2) w) :
    Calls Tryd.prog 59 #[v1, v2] w fun e w' => e = .returned (.bool (t1.toList == t2.toList)) ∧ w' = w := Any.bytes_Equal_strs Tryd.lays115 v1 v2 t1 t2 w h1 h2
def Tryd.laysnb115_ren : Go.Shelf.Ren := ⟨fun | 115 => 59 | n => n, fun | 37 => 44 | 4 => 4 | 9 => 9 | 5 => 5 | n => n, fun | n => n⟩
theorem Tryd.laysnb115 : Go.Proofs.Lays.nb115 Tryd.prog Tryd.laysnb115_ren := {
  mixed := by kernel_rfl
  f115 := Tryd.func59.trans (congrArg some (by kernel_rfl))
  t4 := Tryd.underlying4
  a4 := Tryd.isAgg4
  z4 := Tryd.sizeOf4
  v4 := Tryd.zeroValue4
  t9 := Tryd.underlying9
  a9 := Tryd.isAgg9
  z9 := Tryd.sizeOf9
  v9 := Tryd.zeroValue9
  t37 := Tryd.underlying44
  a37 := Tryd.isAgg44
  z37 := Tryd.sizeOf44
  v37 := Tryd.zeroValue44
  t5 := Tryd.underlying5
  a5 := Tryd.isAgg5
  z5 := Tryd.sizeOf5
  v5 := Tryd.zeroValue5 }
/-- bytes.Equal: WHOLE. (LAID: no walk: one application.) -/
theorem Tryd.bytes_Equal_all (p1 p2 : Option Addr) (n c m d : Nat) (xs ys : List Int) (w : World) (hx : xs.length = n) (hy : ys.length = m) (h1 : Lib.BytesIn w p1 n xs) (h2 : Lib.BytesIn w p2 m ys) :
    Calls Tryd.prog 59 #[.slice p1 n c, .slice p2 m d] w fun e w' => e = .returned (.bool (Lib.bytesOf xs == Lib.bytesOf ys)) ∧ w' = w := Any.bytes_Equal_all Tryd.laysnb115 p1 p2 n c m d xs ys w hx hy h1 h2
/-- bytes.Equal: "Equal reports whether a and b are the same length and contain the same bytes. A nil argument is equivalent to an empty slice.": IT RETURNS 'the bytes of the one == the bytes of the other'; the world is as it was. THE TWO ARGUMENTS COME AS WHATEVER VALUES, each with the one fact that the walk wants of it: what 'string(..)' of it gives: for a slice whose cells you know: 'run_convert_bytes_arg' (Derived/Laws/BytesArg.lean) hands that fact; for a nil one: 'run_convert_bytes_nil' (with xs := []). (LAID: no walk: one application.) -/
theorem Tryd.bytes_Equal (v1 v2 : Value) (xs ys : List Int) (w : World) (h1 : (convert 44 9 v1).run Tryd.prog w = .ok (.string (strOfNums xs)) w) (h2 : (convert 44 9 v2).run Tryd.prog w = .ok (.string (strOfNums ys)) w) :
    Calls Tryd.prog 59 #[v1, v2] w fun e w' => e = .returned (.bool (Lib.bytesOf xs == Lib.bytesOf ys)) ∧ w' = w := Any.bytes_Equal Tryd.lays115 v1 v2 xs ys w h1 h2
end Go.Proofs

/-
  The walk of runes.Valid: utf8.ValidString by its contract.
-/
set_option linter.unusedVariables false
namespace Go.Proofs.YthpenehgfogloaaDoor
open Go.RowKit

theorem ret_bool {a b : Bool} (h : a = b) : Ending.returned (.bool a) = .returned (.bool b) := by rw [h]
theorem ret_str {a b : ByteArray} (h : a = b) : Ending.returned (.string a) = .returned (.string b) := by rw [h]
theorem ret_tab {k k' : IntKind} {a b c d : Int} (h : a = b) (h' : c = d) : Ending.returned (.tuple #[.int k a, .int k' c]) = .returned (.tuple #[.int k b, .int k' d]) := by rw [h, h']
theorem tabs_below {g h : Nat} {w w' : World} {B : Nat} (hT : Lib.Utf8Tabs g h w) (hb : Below B w w') (hg : g < B) (hh : h < B) : Lib.Utf8Tabs g h w' :=
  ⟨fun c hc => (hb.cell (p := ⟨g, c, none⟩) hg).trans (hT.1 c hc), fun i hi => ⟨(hb.cell (p := ⟨h, 2 * i, none⟩) hh).trans (hT.2 i hi).1, (hb.cell (p := ⟨h, 2 * i + 1, none⟩) hh).trans (hT.2 i hi).2⟩⟩
theorem tabs_lt {g h : Nat} {w : World} (hT : Lib.Utf8Tabs g h w) : g < w.heap.size ∧ h < w.heap.size :=
  ⟨World.block_lt_of_cell? w _ (hT.1 0 (by omega)), World.block_lt_of_cell? w _ (hT.2 0 (by omega)).1⟩
theorem tabs_keep {g h : Nat} {w w' : World} (hT : Lib.Utf8Tabs g h w) (hb : Below w.heap.size w w') : Lib.Utf8Tabs g h w' :=
  tabs_below hT hb (tabs_lt hT).1 (tabs_lt hT).2

/-- The two tables of unicode/utf8, as the cards tie them: what every walk that may come to utf8.ValidString asks. A name, so that no walk looks behind it. -/
def Tabs (w : World) : Prop := Lib.Utf8Tabs 0 1 w
theorem Tabs.keep {w w' : World} (h : Tabs w) (hb : Below w.heap.size w w') : Tabs w' := tabs_keep h hb
theorem Tabs.below {w w' : World} {B : Nat} (h : Tabs w) (hb : Below B w w') (hB : w.heap.size ≤ B) : Tabs w' := tabs_keep h (hb.mono hB)

set_option maxHeartbeats 400000 in
theorem runes_Valid (s : ByteArray) (w : World) (hs : s.size ≤ 9223372036854775807) (hT : Tabs w) :
    Calls Tryd.prog 76 #[.string s] w fun e w' => e = .returned (.bool (Lib.validD s.data.toList)) ∧ Below w.heap.size w w' := by
  go_enter Tryd.func76, Tryd.ntmps76
  go_wp2_with (go_at_call 82; refine (Tryd.utf8_ValidString _ _ hs hT).mono ?_; rintro e w' ⟨rfl, hb⟩)
  go_ret
  exact ⟨rfl, hb⟩
end Go.Proofs.YthpenehgfogloaaDoor

/-
  What every card of this seat shares: the two listed tables give the walks their premise; a world that holds them, for the witness.
-/
set_option linter.unusedVariables false
set_option maxRecDepth 10000
namespace Go.Proofs.YthpenehgfogloaaDoor
open Go.ChangeShapes Go.WideShapes Go.ChangeAt Go.RowKit Go.Lib

theorem own : ownKnob Tryd.prog.godebug = none := by kernel_rfl
theorem laidOut : laidOutB Tryd.prog = true := by kernel_rfl
theorem gFirst : Tryd.prog.globalNamed "unicode/utf8.first" = some 0 := by kernel_rfl
theorem gAccept : Tryd.prog.globalNamed "unicode/utf8.acceptRanges" = some 1 := by kernel_rfl
theorem tyFirst : (Tryd.prog.globals[0]?).map (·.type) = some 143 := by kernel_rfl
theorem tyAccept : (Tryd.prog.globals[1]?).map (·.type) = some 146 := by kernel_rfl
theorem cByte : Tryd.prog.cellsOf 5 = 1 := by kernel_rfl
theorem cFirst : Tryd.prog.cellsOf 143 = 256 := by kernel_rfl
theorem cAccept : Tryd.prog.cellsOf 145 = 2 := by kernel_rfl

theorem firstIs : Rows.laid_unicode_utf8_first = firstData := Pinned.utf8First_eq
theorem acceptIs : (Rows.laid_unicode_utf8_acceptRanges : DataW Unit) = acceptData := by kernel_rfl

/-- WHAT THE ROW's LIST GIVES THE WALKS. -/
theorem tabs_of_reads {w : World} (h3 : VarReads Tryd.prog w "unicode/utf8.first" firstData) (h4 : VarReads Tryd.prog w "unicode/utf8.acceptRanges" acceptData) : Tabs w := by
  refine ⟨fun c hc => ?_, fun i hi => ?_⟩
  · obtain ⟨g, t, cs, fuel, p, hg, hty, hvar, hd⟩ := h3
    obtain rfl := Option.some.inj (gFirst.symm.trans hg)
    obtain rfl := Option.some.inj (tyFirst.symm.trans hty)
    have hcs := cells_of_tab Tryd.underlying143 Tryd.underlying5 cByte cFirst hd
    have := World.var?_cell hg hvar c
    rw [this, ← Array.getElem?_toList, hcs]
    simp [firstTab, hc]
  · obtain ⟨g, t, cs, fuel, p, hg, hty, hvar, hd⟩ := h4
    obtain rfl := Option.some.inj (gAccept.symm.trans hg)
    obtain rfl := Option.some.inj (tyAccept.symm.trans hty)
    obtain ⟨fuel', d, q, hdi, he⟩ := array_elem Tryd.underlying146 hd i hi
    simp only [List.getElem?_map, List.getElem?_range hi, Option.map_some, Option.some.injEq] at hdi
    subst hdi
    rw [cAccept] at he
    have hcs := ints_of_struct Tryd.underlying145 (fun j f hj => by
      match j, hj with
      | 0, hj => simp at hj; subst hj; exact ⟨Tryd.underlying5, rfl, cByte⟩
      | 1, hj => simp at hj; subst hj; exact ⟨Tryd.underlying5, rfl, cByte⟩
      | j + 2, hj => simp at hj) (by rw [cAccept]; rfl) he
    have e0 := congrArg (·[0]?) hcs
    have e1 := congrArg (·[1]?) hcs
    simp only [List.getElem?_take, List.getElem?_drop] at e0 e1
    constructor
    · rw [World.var?_cell hg hvar (2 * i), ← Array.getElem?_toList]
      simpa [Nat.mul_comm] using e0
    · rw [World.var?_cell hg hvar (2 * i + 1), ← Array.getElem?_toList]
      simpa [Nat.mul_comm] using e1

theorem tabs_of_laid {l : List (String × DataW Unit)} {w : World} (hp : (l.all fun x => x.2.handleName?.isNone) = true) (h1 : ("unicode/utf8.first", Rows.laid_unicode_utf8_first) ∈ l) (h2 : ("unicode/utf8.acceptRanges", (Rows.laid_unicode_utf8_acceptRanges : DataW Unit)) ∈ l) (h : laidMetH Tryd.prog l w) : Tabs w := by
  rw [MakeChecks.laidMetH_plain _ _ _ hp] at h
  have r1 := Go.Lib.laidMet.reads h h1
  have r2 := Go.Lib.laidMet.reads h h2
  rw [firstIs] at r1
  rw [acceptIs] at r2
  exact tabs_of_reads r1 r2

/-! ### a world that holds the tables -/
def firstCells : Array Value := (firstTab.map fun z => Value.int .u8 z).toArray
def acceptCells : Array Value := ((List.range 16).flatMap fun i => [Value.int .u8 (accLo i), Value.int .u8 (accHi i)]).toArray
def layFirst : Obj → Obj
  | .cells _ t frozen => .cells firstCells t frozen
  | o => o
def layAccept : Obj → Obj
  | .cells _ t frozen => .cells acceptCells t frozen
  | o => o
noncomputable def laidWorld (os : Os) : World :=
  { World.holding Tryd.prog os ⟨#[], #[], []⟩ with heap := ((World.holding Tryd.prog os ⟨#[], #[], []⟩).heap.modify 0 layFirst).modify 1 layAccept }
theorem laid_met (os : Os) (args : Array Value) : laidMet Tryd.prog Rows.replayNoneRow.laid ((laidWorld os).forCall (fun _ _ => 0) ⟨#[], args, []⟩).memory :=
  laidMet_of_run' 8 (by kernel_rfl) (by kernel_rfl)
theorem laid_vars (os : Os) (args : Array Value) : ((laidWorld os).forCall (fun _ _ => 0) ⟨#[], args, []⟩).variablesB Tryd.prog = true := by kernel_rfl
theorem laid_rest (os : Os) (args : Array Value) : (((laidWorld os).forCall (fun _ _ => 0) ⟨#[], args, []⟩).heap.toList.drop Tryd.prog.globals.size).take ((begin Tryd.prog (fun _ _ => 0) default).world.heap.size - Tryd.prog.globals.size) =
      (begin Tryd.prog (fun _ _ => 0) default).world.heap.toList.drop Tryd.prog.globals.size := by kernel_rfl
end Go.Proofs.YthpenehgfogloaaDoor
