/-
  Texts of the proof, one behind the other (part 1).
-/
import Derived.Lib.ValidLaws
import Derived.Lib.MapLaws
import Derived.Lib.TrimUEq
import Derived.Lib.RuneBytes
import Derived.Laws.RangeAny
import Derived.Laws.Strings
import GoSem.Op.String
import Derived.Shelf.Small.Bits
import Derived.Shelf.Strconv.Itoa0
import Derived.Shelf.Bytes.SlSearch0
import Derived.Shelf.Bytes.SlEqualAll
import Derived.Shelf.Bytes.Small
import Derived.Shelf.Unicode.ValidAny
import Derived.Test.YtmalklakaalaoaaGreatDoorProg
import Derived.Test.YtmalklakaalaoaaGreatDoorChecked
import Derived.WalkKit
import Derived.WalkLawsBesides
import Derived.WalkSpells
import Derived.Lib.Hide
import Derived.Test.YtmalklakaalaoaaGreatDoorCards
import Derived.Test.YtmalklakaalaoaaGreatDoorTie
import Derived.ProofKit
import Derived.OpenShut
import Derived.ShutString
import Derived.ChangeOld
import Derived.Deep.DeepHandedRow
import Derived.PinnedBridge
import Derived.Lib.LaidU8
import Derived.MakeChecks
import Derived.Lib.SmallJoins
namespace Ph
open Go Go.Lib
def rsN : Nat → List UInt8 → List (Nat × Nat)
  | 0, _ => []
  | n + 1, l => if l = [] then [] else decodeL l :: rsN n (l.drop (decodeL l).2)
def rs (l : List UInt8) : List (Nat × Nat) := rsN l.length l
theorem rsN_nil (n : Nat) : rsN n [] = [] := by cases n <;> simp [rsN]
theorem rsN_fuel : ∀ (n m : Nat) (l : List UInt8), l.length ≤ n → l.length ≤ m → rsN n l = rsN m l
  | 0, m, l, h, _ => by
    have : l = [] := List.length_eq_zero_iff.1 (by omega)
    subst this
    simp [rsN_nil]
  | n + 1, 0, l, _, h => by
    have : l = [] := List.length_eq_zero_iff.1 (by omega)
    subst this
    simp [rsN_nil]
  | n + 1, m + 1, l, h, h' => by
    simp only [rsN]
    by_cases he : l = []
    · simp [he]
    · have hw := decodeL_width l
      rw [if_neg he, if_neg he, rsN_fuel n m _ (by simp; omega) (by simp; omega)]
theorem rs_nil : rs [] = [] := rfl
theorem rs_step (l : List UInt8) (h : l ≠ []) : rs l = decodeL l :: rs (l.drop (decodeL l).2) := by
  have hp : 0 < l.length := List.length_pos_iff.2 h
  have hw := decodeL_width l
  unfold rs
  obtain ⟨n, hn⟩ : ∃ n, l.length = n + 1 := ⟨l.length - 1, by omega⟩
  rw [hn]
  simp only [rsN]
  rw [if_neg h]
  congr 1
  exact rsN_fuel _ _ _ (by simp; omega) (Nat.le_refl _)
theorem rs_induct {motive : List UInt8 → Prop} (h0 : motive []) (h1 : ∀ l, l ≠ [] → motive (l.drop (decodeL l).2) → motive l) : ∀ l, motive l := by
  intro l
  generalize hn : l.length = n
  induction n using Nat.strongRecOn generalizing l with
  | _ n ih =>
    by_cases he : l = []
    · subst he; exact h0
    · have hw := decodeL_width l
      have hp : 0 < l.length := List.length_pos_iff.2 he
      exact h1 l he (ih _ (by simp; omega) _ rfl)
def wid (p : List (Nat × Nat)) : Nat := (p.map (·.2)).sum
theorem wid_nil : wid [] = 0 := rfl
theorem wid_cons (a : Nat × Nat) (p : List (Nat × Nat)) : wid (a :: p) = a.2 + wid p := by simp [wid]
theorem wid_append (p q : List (Nat × Nat)) : wid (p ++ q) = wid p + wid q := by simp [wid]
theorem wid_rs : ∀ l : List UInt8, wid (rs l) = l.length :=
  rs_induct rfl (fun l he ih => by
    rw [rs_step l he, wid_cons, ih]
    have := decodeL_le l he
    simp; omega)
theorem rs_length_le : ∀ l : List UInt8, (rs l).length ≤ l.length :=
  rs_induct (Nat.le_refl _) (fun l he ih => by
    rw [rs_step l he]
    have := decodeL_le l he
    have := decodeL_width l
    simp at ih ⊢; omega)
def count (l : List UInt8) : Nat := (rs l).length
def cutL (l : List UInt8) (n : Int) : List UInt8 := if n < 1 then [] else l.take (wid ((rs l).take n.toNat))
def plainB (p : List (Nat × Nat)) : Bool := p.all fun q => !(decide (q.1 < 32) || q.1 == 127)
def keyB (l : List UInt8) : Bool := plainB (rs l) && decide (1 ≤ count l) && decide (count l ≤ 40) && validD l
def lessR : List Nat → List Nat → Option Bool
  | [], [] => none
  | [], _ :: _ => some true
  | _ :: _, [] => some false
  | x :: xs, y :: ys => if x = y then lessR xs ys else some (decide (x < y))
def bytesLess : List UInt8 → List UInt8 → Bool
  | [], [] => false
  | [], _ :: _ => true
  | _ :: _, [] => false
  | x :: xs, y :: ys => if x = y then bytesLess xs ys else decide (x < y)
end Ph

set_option linter.unusedVariables false
namespace Ph
open Go Go.Lib
theorem cutL_all (l : List UInt8) (n : Int) (h : (count l : Int) ≤ n) (h1 : 1 ≤ n) : cutL l n = l := by
  unfold cutL
  rw [if_neg (by omega), List.take_of_length_le (l := rs l) (by unfold count at h; omega), wid_rs]
  simp
theorem u8 (z : Int) (h0 : 0 ≤ z) (h1 : z < 256) : (z.toNat.toUInt8).toNat = z.toNat := by
  simp; omega
theorem lessR_none : ∀ {x y : List Nat}, lessR x y = none → x = y
  | [], [], _ => rfl
  | [], _ :: _, h => by simp [lessR] at h
  | _ :: _, [], h => by simp [lessR] at h
  | a :: x, b :: y, h => by
    simp only [lessR] at h
    split at h
    · rw [lessR_none h]; congr
    · cases h
theorem lessR_self : ∀ x : List Nat, lessR x x = none
  | [] => rfl
  | a :: x => by simp [lessR, lessR_self x]
theorem lessR_swap : ∀ {x y : List Nat} {b : Bool}, lessR x y = some b → lessR y x = some (!b)
  | [], [], _, h => by simp [lessR] at h
  | [], _ :: _, _, h => by simp [lessR] at h; subst h; rfl
  | _ :: _, [], _, h => by simp [lessR] at h; subst h; rfl
  | a :: x, c :: y, b, h => by
    simp only [lessR] at h ⊢
    by_cases e : a = c
    · rw [if_pos e] at h
      rw [if_pos e.symm]
      exact lessR_swap h
    · rw [if_neg e] at h
      rw [if_neg (Ne.symm e)]
      simp only [Option.some.injEq] at h ⊢
      rw [← h]
      by_cases hlt : a < c <;> simp [hlt] <;> omega
theorem lessR_trans : ∀ {x y z : List Nat}, lessR x y = some true → lessR y z = some true → lessR x z = some true
  | [], [], _, h, _ => by simp [lessR] at h
  | [], _ :: _, [], _, h => by simp [lessR] at h
  | [], _ :: _, _ :: _, _, _ => rfl
  | _ :: _, [], _, h, _ => by simp [lessR] at h
  | _ :: _, _ :: _, [], _, h => by simp [lessR] at h
  | a :: x, b :: y, c :: z, h, h' => by
    simp only [lessR] at h h' ⊢
    by_cases e : a = b
    · rw [if_pos e] at h
      by_cases e' : b = c
      · rw [if_pos e'] at h'
        rw [if_pos (e.trans e')]
        exact lessR_trans h h'
      · rw [if_neg e'] at h'
        simp at h'
        rw [if_neg (by omega)]
        simp; omega
    · rw [if_neg e] at h
      simp at h
      by_cases e' : b = c
      · rw [if_pos e'] at h'
        rw [if_neg (by omega)]
        simp; omega
      · rw [if_neg e'] at h'
        simp at h'
        rw [if_neg (by omega)]
        simp; omega
theorem bytesLess_irr : ∀ x : List UInt8, bytesLess x x = false
  | [] => rfl
  | a :: x => by simp [bytesLess, bytesLess_irr x]
theorem bytesLess_total : ∀ x y : List UInt8, x ≠ y → (bytesLess x y || bytesLess y x) = true
  | [], [], h => absurd rfl h
  | [], _ :: _, _ => rfl
  | _ :: _, [], _ => rfl
  | a :: x, b :: y, h => by
    simp only [bytesLess]
    by_cases e : a = b
    · subst e
      simp only [if_true]
      exact bytesLess_total x y (fun hh => h (by rw [hh]))
    · rw [if_neg e, if_neg (Ne.symm e)]
      simp only [Bool.or_eq_true, decide_eq_true_eq, UInt8.lt_iff_toNat_lt]
      have : a.toNat ≠ b.toNat := fun hh => e (UInt8.toNat_inj.1 hh)
      omega
theorem bytesLess_asymm : ∀ x y : List UInt8, bytesLess x y = true → bytesLess y x = false
  | [], [], h => by simp [bytesLess] at h
  | [], _ :: _, _ => rfl
  | _ :: _, [], h => by simp [bytesLess] at h
  | a :: x, b :: y, h => by
    simp only [bytesLess] at h ⊢
    by_cases e : a = b
    · rw [if_pos e] at h
      rw [if_pos e.symm]
      exact bytesLess_asymm x y h
    · rw [if_neg e] at h
      rw [if_neg (Ne.symm e)]
      simp only [decide_eq_true_eq, decide_eq_false_iff_not, UInt8.lt_iff_toNat_lt] at h ⊢
      omega
theorem bytesLess_trans : ∀ x y z : List UInt8, bytesLess x y = true → bytesLess y z = true → bytesLess x z = true
  | [], [], _, h, _ => by simp [bytesLess] at h
  | [], _ :: _, [], _, h => by simp [bytesLess] at h
  | [], _ :: _, _ :: _, _, _ => rfl
  | _ :: _, [], _, h, _ => by simp [bytesLess] at h
  | _ :: _, _ :: _, [], _, h => by simp [bytesLess] at h
  | a :: x, b :: y, c :: z, h, h' => by
    simp only [bytesLess] at h h' ⊢
    by_cases e : a = b
    · rw [if_pos e] at h
      by_cases e' : b = c
      · rw [if_pos e'] at h'
        rw [if_pos (e.trans e')]
        exact bytesLess_trans x y z h h'
      · rw [if_neg e'] at h'
        subst e
        rw [if_neg e']
        exact h'
    · rw [if_neg e] at h
      simp only [decide_eq_true_eq, UInt8.lt_iff_toNat_lt] at h
      by_cases e' : b = c
      · subst e'
        rw [if_neg e]
        simpa [UInt8.lt_iff_toNat_lt] using h
      · rw [if_neg e'] at h'
        simp only [decide_eq_true_eq, UInt8.lt_iff_toNat_lt] at h'
        have : a ≠ c := fun hh => by subst hh; omega
        rw [if_neg this]
        simp only [decide_eq_true_eq, UInt8.lt_iff_toNat_lt]
        omega
def lessL (a b : List UInt8) : Bool :=
  match lessR ((rs a).map (·.1)) ((rs b).map (·.1)) with
  | some x => x
  | none => bytesLess a b
theorem lessL_asymm (a b : List UInt8) (h : lessL a b = true) : lessL b a = false := by
  unfold lessL at *
  cases e : lessR ((rs a).map (·.1)) ((rs b).map (·.1)) with
  | some x =>
    rw [e] at h
    rw [lessR_swap e]
    simp at h
    simp [h]
  | none =>
    rw [e] at h
    have e2 := lessR_none e
    rw [e2, lessR_self]
    exact bytesLess_asymm a b h
theorem lessL_total (a b : List UInt8) (h : a ≠ b) : (lessL a b || lessL b a) = true := by
  unfold lessL at *
  cases e : lessR ((rs a).map (·.1)) ((rs b).map (·.1)) with
  | some x =>
    rw [lessR_swap e]
    cases x <;> rfl
  | none =>
    have e2 := lessR_none e
    rw [e2, lessR_self]
    exact bytesLess_total a b h
theorem lessL_trans (a b c : List UInt8) (h : lessL a b = true) (h' : lessL b c = true) : lessL a c = true := by
  unfold lessL at *
  cases e : lessR ((rs a).map (·.1)) ((rs b).map (·.1)) with
  | some x =>
    rw [e] at h
    simp at h
    subst h
    cases e' : lessR ((rs b).map (·.1)) ((rs c).map (·.1)) with
    | some y =>
      rw [e'] at h'
      simp at h'
      subst h'
      rw [lessR_trans e e']
    | none =>
      rw [← lessR_none e', e]
  | none =>
    rw [e] at h
    rw [lessR_none e]
    cases e' : lessR ((rs b).map (·.1)) ((rs c).map (·.1)) with
    | some y => rw [e'] at h'; exact h'
    | none =>
      rw [e'] at h'
      exact bytesLess_trans a b c h h'
theorem lessL_irr (a : List UInt8) : lessL a a = false := by
  unfold lessL
  rw [lessR_self]
  exact bytesLess_irr a
end Ph

namespace Ph
open Go Go.Lib
theorem rs_at (s : ByteArray) (pos : Nat) (h : pos < s.size) : rs (s.data.toList.drop pos) = Utf8.decode s pos :: rs (s.data.toList.drop (pos + (Utf8.decode s pos).2)) := by
  have hne : s.data.toList.drop pos ≠ [] := by
    intro hh
    have := congrArg List.length hh
    rw [List.length_drop, List.length_nil, Array.length_toList] at this
    have : s.data.size = s.size := rfl
    omega
  rw [rs_step _ hne, decodeL_drop, List.drop_drop]
theorem rs_end (s : ByteArray) (pos : Nat) (h : ¬ pos < s.size) : rs (s.data.toList.drop pos) = [] := by
  have : s.data.toList.drop pos = [] := by
    apply List.drop_eq_nil_of_le
    rw [Array.length_toList]
    have : s.data.size = s.size := rfl
    omega
  rw [this, rs_nil]
theorem width_pos (s : ByteArray) (pos : Nat) : 1 ≤ (Utf8.decode s pos).2 := by
  rw [← decodeL_drop]
  exact decodeL_width _
theorem width_le (s : ByteArray) (pos : Nat) (h : pos < s.size) : pos + (Utf8.decode s pos).2 ≤ s.size := by
  rw [← decodeL_drop]
  have hne : s.data.toList.drop pos ≠ [] := by
    intro hh
    have := congrArg List.length hh
    rw [List.length_drop, List.length_nil, Array.length_toList] at this
    have : s.data.size = s.size := rfl
    omega
  have := decodeL_le _ hne
  rw [List.length_drop, Array.length_toList] at this
  have : s.data.size = s.size := rfl
  omega
theorem len_toList (s : ByteArray) : s.data.toList.length = s.size := by
  rw [Array.length_toList]; rfl
theorem count_le (s : ByteArray) : count s.data.toList ≤ s.size := by
  have := rs_length_le s.data.toList
  rw [len_toList] at this
  exact this
theorem extract_take (s : ByteArray) (k : Nat) : (s.extract 0 k).data.toList = s.data.toList.take k := by
  simp
theorem extract_eq (s : ByteArray) (k : Nat) : s.extract 0 k = ⟨(s.data.toList.take k).toArray⟩ := by
  rw [← extract_take]
theorem eta_bytes (s : ByteArray) : (⟨s.data.toList.toArray⟩ : ByteArray) = s := by cases s; simp
theorem step_take {α : Type} {L : List α} {k : Nat} {d : α} {T : List α} (h : L.drop k = d :: T) : k < L.length ∧ L.take (k + 1) = L.take k ++ [d] ∧ L.drop (k + 1) = T := by
  have hk : k < L.length := by
    rcases Nat.lt_or_ge k L.length with h1 | h1
    · exact h1
    · rw [List.drop_eq_nil_of_le h1] at h; cases h
  rw [List.drop_eq_getElem_cons hk] at h
  injection h with h1 h2
  exact ⟨hk, by rw [List.take_succ_eq_append_getElem hk, h1], h2⟩
theorem drop_nil_le {α : Type} {L : List α} {k : Nat} (h : L.drop k = []) : L.length ≤ k := by
  have := congrArg List.length h
  rw [List.length_drop, List.length_nil] at this
  omega
theorem rs_small : ∀ l : List UInt8, ∀ q ∈ rs l, q.1 ≤ 1114111 :=
  rs_induct (by simp [rs_nil]) (fun l he ih q hq => by
    rw [rs_step l he] at hq
    rcases List.mem_cons.1 hq with rfl | hq
    · exact decodeL_rune l
    · exact ih q hq)
theorem plainB_cons (d : Nat × Nat) (T : List (Nat × Nat)) : plainB (d :: T) = (!(decide (d.1 < 32) || d.1 == 127) && plainB T) := rfl
theorem plainB_bad {d : Nat × Nat} {T : List (Nat × Nat)} (h : d.1 < 32 ∨ d.1 = 127) : plainB (d :: T) = false := by
  rw [plainB_cons]
  rcases h with h | h <;> simp [h]
theorem plainB_good {d : Nat × Nat} {T : List (Nat × Nat)} (h : ¬ (d.1 < 32 ∨ d.1 = 127)) : plainB (d :: T) = plainB T := by
  rw [plainB_cons]
  have h1 : ¬ d.1 < 32 := fun x => h (.inl x)
  have h2 : ¬ d.1 = 127 := fun x => h (.inr x)
  simp [h1, h2]
theorem keyB_bad {l : List UInt8} (h : plainB (rs l) = false) : keyB l = false := by simp [keyB, h]
theorem keyB_short {l : List UInt8} (h : ¬ (1 ≤ count l ∧ count l ≤ 40)) : keyB l = false := by
  unfold keyB
  by_cases h1 : 1 ≤ count l
  · have h2 : ¬ count l ≤ 40 := fun x => h ⟨h1, x⟩
    simp [h2]
  · simp [h1]
theorem keyB_long {l : List UInt8} (hp : plainB (rs l) = true) (h1 : 1 ≤ count l) (h2 : count l ≤ 40) : keyB l = validD l := by simp [keyB, hp, h1, h2]
theorem bytesLess_eq : ∀ a b : List UInt8, Op.bytesLess a b = bytesLess a b
  | [], [] => rfl
  | [], _ :: _ => rfl
  | _ :: _, [] => rfl
  | a :: x, b :: y => by
    simp only [Op.bytesLess, bytesLess, bytesLess_eq x y]
    by_cases e : a = b
    · subst e; simp
    · simp [e]
theorem bytesLess_toList (a b : ByteArray) : Op.bytesLess a.toList b.toList = bytesLess a.data.toList b.data.toList := by
  rw [ByteArray.toList_eq, ByteArray.toList_eq, bytesLess_eq]
def lessAt (a b x y : List UInt8) : Bool :=
  match lessR ((rs x).map (·.1)) ((rs y).map (·.1)) with
  | some z => z
  | none => bytesLess a b
theorem lessAt_none (a b : List UInt8) : lessAt a b [] [] = bytesLess a b := rfl
theorem lessAt_left (a b y : List UInt8) (h : y ≠ []) : lessAt a b [] y = true := by
  unfold lessAt
  rw [rs_step y h]; rfl
theorem lessAt_right (a b x : List UInt8) (h : x ≠ []) : lessAt a b x [] = false := by
  unfold lessAt
  rw [rs_step x h]; rfl
theorem lessAt_ne (a b x y : List UInt8) (hx : x ≠ []) (hy : y ≠ []) (h : (decodeL x).1 ≠ (decodeL y).1) : lessAt a b x y = decide ((decodeL x).1 < (decodeL y).1) := by
  unfold lessAt
  rw [rs_step x hx, rs_step y hy]
  simp [lessR, h]
theorem lessAt_eq (a b x y : List UInt8) (hx : x ≠ []) (hy : y ≠ []) (h : (decodeL x).1 = (decodeL y).1) : lessAt a b x y = lessAt a b (x.drop (decodeL x).2) (y.drop (decodeL y).2) := by
  unfold lessAt
  rw [rs_step x hx, rs_step y hy]
  simp [lessR, h]
def lessD (a b : List UInt8) (x y : List (Nat × Nat)) : Bool :=
  match lessR (x.map (·.1)) (y.map (·.1)) with
  | some z => z
  | none => bytesLess a b
theorem lessD_all (a b : List UInt8) : lessL a b = lessD a b (rs a) (rs b) := rfl
theorem lessD_nn (a b : List UInt8) : lessD a b [] [] = bytesLess a b := rfl
theorem lessD_nc (a b : List UInt8) {x y : List (Nat × Nat)} (hx : x.length = 0) (hy : 0 < y.length) : lessD a b x y = true := by
  match x, y, hx, hy with
  | [], q :: y, _, _ => rfl
theorem lessD_cn (a b : List UInt8) {x y : List (Nat × Nat)} (hx : 0 < x.length) (hy : y.length = 0) : lessD a b x y = false := by
  match x, y, hx, hy with
  | q :: x, [], _, _ => rfl
theorem lessD_ne (a b : List UInt8) (p q : Nat × Nat) (x y : List (Nat × Nat)) (h : p.1 ≠ q.1) : lessD a b (p :: x) (q :: y) = decide (p.1 < q.1) := by simp [lessD, lessR, h]
theorem lessD_eq (a b : List UInt8) (p q : Nat × Nat) (x y : List (Nat × Nat)) (h : p.1 = q.1) : lessD a b (p :: x) (q :: y) = lessD a b x y := by simp [lessD, lessR, h]
theorem ne_of_size {s : ByteArray} (h : 0 < s.size) : s.data.toList ≠ [] := by
  intro hh
  have := len_toList s
  rw [hh, List.length_nil] at this
  omega
theorem nil_of_size {s : ByteArray} (h : ¬ 0 < s.size) : s.data.toList = [] := List.length_eq_zero_iff.1 (by rw [len_toList]; omega)
theorem isEmpty_toList (s : ByteArray) : s.toList.isEmpty = decide (s.size = 0) := by
  rw [ByteArray.toList_eq]
  by_cases h : s.size = 0
  · rw [nil_of_size (by omega)]
    simp [h]
  · have := ne_of_size (s := s) (by omega)
    cases e : s.data.toList with
    | nil => exact absurd e this
    | cons a l => simp [h]
theorem empty_no {s : ByteArray} (h : 0 < s.size) : s.toList.isEmpty = false := by rw [isEmpty_toList]; exact decide_eq_false (by omega)
theorem empty_yes {s : ByteArray} (h : ¬ 0 < s.size) : s.toList.isEmpty = true := by rw [isEmpty_toList]; exact decide_eq_true (by omega)
theorem extract_drop (s : ByteArray) (k : Nat) : (s.extract k s.size).data.toList = s.data.toList.drop k := by
  have : s.data.toList.length = s.size := len_toList s
  simp
  rw [List.take_of_length_le (by rw [List.length_drop]; omega)]
def decZ (l : List UInt8) : Nat × Nat := if l = [] then (65533, 0) else decodeL l
theorem decZ_at (s : ByteArray) (hp : 0 < s.size) : decZ s.data.toList = Utf8.decode s 0 ∧ (cutL s.data.toList 1).length = (Utf8.decode s 0).2 := by
  have hne : s.data.toList ≠ [] := by
    intro hh
    have := len_toList s
    rw [hh, List.length_nil] at this
    omega
  have h0 := decodeL_drop s 0
  rw [List.drop_zero] at h0
  have hle := decodeL_le _ hne
  refine ⟨by unfold decZ; rw [if_neg hne, h0], ?_⟩
  unfold cutL
  rw [if_neg (by omega), rs_step _ hne]
  show (List.take (wid (List.take 1 _)) _).length = _
  rw [List.take_succ_cons, List.take_zero, wid_cons, wid_nil, List.length_take, ← h0]
  omega
theorem decZ_ne {s : ByteArray} (h : 0 < s.size) : decZ s.data.toList = decodeL s.data.toList ∧ 1 ≤ (decZ s.data.toList).2 ∧ (decZ s.data.toList).2 ≤ s.size := by
  have hne := ne_of_size h
  have e : decZ s.data.toList = decodeL s.data.toList := by unfold decZ; rw [if_neg hne]
  rw [e]
  have h1 := decodeL_width s.data.toList
  have h2 := decodeL_le _ hne
  rw [len_toList] at h2
  exact ⟨rfl, h1, h2⟩
theorem decZ_empty (s : ByteArray) (hp : ¬ 0 < s.size) : decZ s.data.toList = (65533, 0) := by
  have : s.data.toList = [] := List.length_eq_zero_iff.1 (by rw [len_toList]; omega)
  rw [this]; rfl
end Ph

namespace Go.Proofs
open Go.Shelf
def Tryz.laysValid_ren : Go.Shelf.Ren := ⟨fun | 196 => 129 | 259 => 141 | n => n, fun | 9 => 9 | 4 => 4 | 3 => 3 | 5 => 5 | 12 => 12 | 119 => 212 | 0 => 0 | 46 => 157 | 139 => 215 | 138 => 214 | 53 => 156 | n => n, fun | 3 => 0 | 4 => 1 | n => n⟩
theorem Tryz.laysValid : Go.Proofs.Lays.n196 Tryz.prog Tryz.laysValid_ren := {
  mixed := by kernel_rfl
  f196 := Tryz.func129.trans (congrArg some (by kernel_rfl))
  f259 := Tryz.func141.trans (congrArg some (by kernel_rfl))
  t0 := Tryz.underlying0
  a0 := Tryz.isAgg0
  z0 := Tryz.sizeOf0
  v0 := Tryz.zeroValue0
  t3 := Tryz.underlying3
  a3 := Tryz.isAgg3
  z3 := Tryz.sizeOf3
  v3 := Tryz.zeroValue3
  t4 := Tryz.underlying4
  a4 := Tryz.isAgg4
  z4 := Tryz.sizeOf4
  v4 := Tryz.zeroValue4
  t5 := Tryz.underlying5
  a5 := Tryz.isAgg5
  z5 := Tryz.sizeOf5
  v5 := Tryz.zeroValue5
  t9 := Tryz.underlying9
  a9 := Tryz.isAgg9
  z9 := Tryz.sizeOf9
  v9 := Tryz.zeroValue9
  t12 := Tryz.underlying12
  a12 := Tryz.isAgg12
  z12 := Tryz.sizeOf12
  v12 := Tryz.zeroValue12
  t46 := Tryz.underlying157
  a46 := Tryz.isAgg157
  z46 := Tryz.sizeOf157
  v46 := Tryz.zeroValue157
  t53 := Tryz.underlying156
  a53 := Tryz.isAgg156
  z53 := Tryz.sizeOf156
  v53 := Tryz.zeroValue156
  t119 := Tryz.underlying212
  a119 := Tryz.isAgg212
  z119 := Tryz.sizeOf212
  t138 := Tryz.underlying214
  a138 := Tryz.isAgg214
  z138 := Tryz.sizeOf214
  v138 := Tryz.zeroValue214
  t139 := Tryz.underlying215
  a139 := Tryz.isAgg215
  z139 := Tryz.sizeOf215
  v139 := Tryz.zeroValue215
  g3 := by kernel_rfl
  g4 := by kernel_rfl }
open Go.RowKit in
theorem Tryz.utf8_ValidString (s : ByteArray) (w : World) (hs : s.size ≤ 9223372036854775807) (hT : Lib.Utf8Tabs 0 1 w) :
    Calls Tryz.prog 129 #[.string s] w fun e w' => e = .returned (.bool (Lib.validD s.data.toList)) ∧ Below w.heap.size w w' := Any.utf8_ValidString Tryz.laysValid s w hs hT
end Go.Proofs

set_option linter.unusedVariables false
namespace Go.Proofs.YtmalklakaalaoaaGreatDoor
open Go.RowKit
theorem ret_bool {a b : Bool} (h : a = b) : Ending.returned (.bool a) = .returned (.bool b) := by rw [h]
theorem ret_str {a b : ByteArray} (h : a = b) : Ending.returned (.string a) = .returned (.string b) := by rw [h]
theorem ret_tab {k k' : IntKind} {a b c d : Int} (h : a = b) (h' : c = d) : Ending.returned (.tuple #[.int k a, .int k' c]) = .returned (.tuple #[.int k b, .int k' d]) := by rw [h, h']
theorem tabs_below {g h : Nat} {w w' : World} {B : Nat} (hT : Lib.Utf8Tabs g h w) (hb : Below B w w') (hg : g < B) (hh : h < B) : Lib.Utf8Tabs g h w' :=
  ⟨fun c hc => (hb.cell (p := ⟨g, c, none⟩) hg).trans (hT.1 c hc), fun i hi => ⟨(hb.cell (p := ⟨h, 2 * i, none⟩) hh).trans (hT.2 i hi).1, (hb.cell (p := ⟨h, 2 * i + 1, none⟩) hh).trans (hT.2 i hi).2⟩⟩
theorem tabs_lt {g h : Nat} {w : World} (hT : Lib.Utf8Tabs g h w) : g < w.heap.size ∧ h < w.heap.size :=
  ⟨World.block_lt_of_cell? w _ (hT.1 0 (by omega)), World.block_lt_of_cell? w _ (hT.2 0 (by omega)).1⟩
theorem tabs_keep {g h : Nat} {w w' : World} (hT : Lib.Utf8Tabs g h w) (hb : Below w.heap.size w w') : Lib.Utf8Tabs g h w' :=
  tabs_below hT hb (tabs_lt hT).1 (tabs_lt hT).2
def Tabs (w : World) : Prop := Lib.Utf8Tabs 0 1 w
theorem Tabs.keep {w w' : World} (h : Tabs w) (hb : Below w.heap.size w w') : Tabs w' := tabs_keep h hb
set_option maxHeartbeats 400000 in
theorem runes_Valid (s : ByteArray) (w : World) (hs : s.size ≤ 9223372036854775807) (hT : Tabs w) :
    Calls Tryz.prog 123 #[.string s] w fun e w' => e = .returned (.bool (Lib.validD s.data.toList)) ∧ Below w.heap.size w w' := by
  go_enter Tryz.func123, Tryz.ntmps123
  go_wp2_with (go_at_call 129; refine (Tryz.utf8_ValidString _ _ hs hT).mono ?_; rintro e w' ⟨rfl, hb⟩)
  go_ret
  exact ⟨rfl, hb⟩
end Go.Proofs.YtmalklakaalaoaaGreatDoor

set_option linter.unusedVariables false
set_option maxRecDepth 10000
namespace Go.Proofs.YtmalklakaalaoaaGreatDoor
open Go.ChangeShapes Go.WideShapes Go.ChangeAt Go.RowKit Go.Lib
theorem own : ownKnob Tryz.prog.godebug = none := by kernel_rfl
theorem laidOut : laidOutB Tryz.prog = true := by kernel_rfl
theorem gFirst : Tryz.prog.globalNamed "unicode/utf8.first" = some 0 := by kernel_rfl
theorem gAccept : Tryz.prog.globalNamed "unicode/utf8.acceptRanges" = some 1 := by kernel_rfl
theorem tyFirst : (Tryz.prog.globals[0]?).map (·.type) = some 212 := by kernel_rfl
theorem tyAccept : (Tryz.prog.globals[1]?).map (·.type) = some 215 := by kernel_rfl
theorem cByte : Tryz.prog.cellsOf 5 = 1 := by kernel_rfl
theorem cFirst : Tryz.prog.cellsOf 212 = 256 := by kernel_rfl
theorem cAccept : Tryz.prog.cellsOf 214 = 2 := by kernel_rfl
theorem firstIs : Rows.laid_unicode_utf8_first = firstData := Pinned.utf8First_eq
theorem acceptIs : (Rows.laid_unicode_utf8_acceptRanges : DataW Unit) = acceptData := by kernel_rfl
theorem tabs_of_reads {w : World} (h3 : VarReads Tryz.prog w "unicode/utf8.first" firstData) (h4 : VarReads Tryz.prog w "unicode/utf8.acceptRanges" acceptData) : Tabs w := by
  refine ⟨fun c hc => ?_, fun i hi => ?_⟩
  · obtain ⟨g, t, cs, fuel, p, hg, hty, hvar, hd⟩ := h3
    obtain rfl := Option.some.inj (gFirst.symm.trans hg)
    obtain rfl := Option.some.inj (tyFirst.symm.trans hty)
    have hcs := cells_of_tab Tryz.underlying212 Tryz.underlying5 cByte cFirst hd
    have := World.var?_cell hg hvar c
    rw [this, ← Array.getElem?_toList, hcs]
    simp [firstTab, hc]
  · obtain ⟨g, t, cs, fuel, p, hg, hty, hvar, hd⟩ := h4
    obtain rfl := Option.some.inj (gAccept.symm.trans hg)
    obtain rfl := Option.some.inj (tyAccept.symm.trans hty)
    obtain ⟨fuel', d, q, hdi, he⟩ := array_elem Tryz.underlying215 hd i hi
    simp only [List.getElem?_map, List.getElem?_range hi, Option.map_some, Option.some.injEq] at hdi
    subst hdi
    rw [cAccept] at he
    have hcs := ints_of_struct Tryz.underlying214 (fun j f hj => by
      match j, hj with
      | 0, hj => simp at hj; subst hj; exact ⟨Tryz.underlying5, rfl, cByte⟩
      | 1, hj => simp at hj; subst hj; exact ⟨Tryz.underlying5, rfl, cByte⟩
      | j + 2, hj => simp at hj) (by rw [cAccept]; rfl) he
    have e0 := congrArg (·[0]?) hcs
    have e1 := congrArg (·[1]?) hcs
    simp only [List.getElem?_take, List.getElem?_drop] at e0 e1
    constructor
    · rw [World.var?_cell hg hvar (2 * i), ← Array.getElem?_toList]
      simpa [Nat.mul_comm] using e0
    · rw [World.var?_cell hg hvar (2 * i + 1), ← Array.getElem?_toList]
      simpa [Nat.mul_comm] using e1
theorem tabs_of_laid {l : List (String × DataW Unit)} {w : World} (hp : (l.all fun x => x.2.handleName?.isNone) = true) (h1 : ("unicode/utf8.first", Rows.laid_unicode_utf8_first) ∈ l) (h2 : ("unicode/utf8.acceptRanges", (Rows.laid_unicode_utf8_acceptRanges : DataW Unit)) ∈ l) (h : laidMetH Tryz.prog l w) : Tabs w := by
  rw [MakeChecks.laidMetH_plain _ _ _ hp] at h
  have r1 := Go.Lib.laidMet.reads h h1
  have r2 := Go.Lib.laidMet.reads h h2
  rw [firstIs] at r1
  rw [acceptIs] at r2
  exact tabs_of_reads r1 r2
def firstCells : Array Value := (firstTab.map fun z => Value.int .u8 z).toArray
def acceptCells : Array Value := ((List.range 16).flatMap fun i => [Value.int .u8 (accLo i), Value.int .u8 (accHi i)]).toArray
def layFirst : Obj → Obj
  | .cells _ t frozen => .cells firstCells t frozen
  | o => o
def layAccept : Obj → Obj
  | .cells _ t frozen => .cells acceptCells t frozen
  | o => o
noncomputable def laidWorld (os : Os) : World :=
  { World.holding Tryz.prog os ⟨#[], #[], []⟩ with heap := ((World.holding Tryz.prog os ⟨#[], #[], []⟩).heap.modify 0 layFirst).modify 1 layAccept }
theorem laid_met (os : Os) (args : Array Value) : laidMet Tryz.prog Rows.streamAllRow.laid ((laidWorld os).forCall (fun _ _ => 0) ⟨#[], args, []⟩).memory :=
  laidMet_of_run' 8 (by kernel_rfl) (by kernel_rfl)
theorem laid_vars (os : Os) (args : Array Value) : ((laidWorld os).forCall (fun _ _ => 0) ⟨#[], args, []⟩).variablesB Tryz.prog = true := by kernel_rfl
theorem laid_rest (os : Os) (args : Array Value) : (((laidWorld os).forCall (fun _ _ => 0) ⟨#[], args, []⟩).heap.toList.drop Tryz.prog.globals.size).take ((begin Tryz.prog (fun _ _ => 0) default).world.heap.size - Tryz.prog.globals.size) =
      (begin Tryz.prog (fun _ _ => 0) default).world.heap.toList.drop Tryz.prog.globals.size := by kernel_rfl
end Go.Proofs.YtmalklakaalaoaaGreatDoor

set_option linter.unusedVariables false
set_option maxRecDepth 10000
namespace Go.Proofs.YtmalklakaalaoaaGreatDoor
open Go.ChangeShapes Go.WideShapes Go.ChangeAt Go.RowKit Go.Lib
open Go.ChangeMaps (open_string shut_string)
open Go.Joins
end Go.Proofs.YtmalklakaalaoaaGreatDoor
