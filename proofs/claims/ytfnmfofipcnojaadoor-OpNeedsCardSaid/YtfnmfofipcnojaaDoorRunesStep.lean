/-
  Plain law: one step of a range over a string, in the words of the runes' list.
-/
import Derived.Test.YtfnmfofipcnojaaDoorRunesLaws
import Derived.Laws.RangeAny
import Derived.Laws.Strings
import GoSem.Op.String
namespace Ph
open Go Go.Lib

theorem rs_at (s : ByteArray) (pos : Nat) (h : pos < s.size) : rs (s.data.toList.drop pos) = Utf8.decode s pos :: rs (s.data.toList.drop (pos + (Utf8.decode s pos).2)) := by
  have hne : s.data.toList.drop pos ≠ [] := by
    intro hh
    have := congrArg List.length hh
    rw [List.length_drop, List.length_nil, Array.length_toList] at this
    have : s.data.size = s.size := rfl
    omega
  rw [rs_step _ hne, decodeL_drop, List.drop_drop]

theorem rs_end (s : ByteArray) (pos : Nat) (h : ¬ pos < s.size) : rs (s.data.toList.drop pos) = [] := by
  have : s.data.toList.drop pos = [] := by
    apply List.drop_eq_nil_of_le
    rw [Array.length_toList]
    have : s.data.size = s.size := rfl
    omega
  rw [this, rs_nil]

theorem width_pos (s : ByteArray) (pos : Nat) : 1 ≤ (Utf8.decode s pos).2 := by
  rw [← decodeL_drop]
  exact decodeL_width _

theorem width_le (s : ByteArray) (pos : Nat) (h : pos < s.size) : pos + (Utf8.decode s pos).2 ≤ s.size := by
  rw [← decodeL_drop]
  have hne : s.data.toList.drop pos ≠ [] := by
    intro hh
    have := congrArg List.length hh
    rw [List.length_drop, List.length_nil, Array.length_toList] at this
    have : s.data.size = s.size := rfl
    omega
  have := decodeL_le _ hne
  rw [List.length_drop, Array.length_toList] at this
  have : s.data.size = s.size := rfl
  omega

theorem rune_le (s : ByteArray) (pos : Nat) : (Utf8.decode s pos).1 ≤ 1114111 := by
  rw [← decodeL_drop]
  exact decodeL_rune _

theorem len_toList (s : ByteArray) : s.data.toList.length = s.size := by
  rw [Array.length_toList]; rfl

theorem count_le (s : ByteArray) : count s.data.toList ≤ s.size := by
  have := rs_length_le s.data.toList
  rw [len_toList] at this
  exact this

/-- The bytes from place 0 to a rune's place. -/
theorem extract_take (s : ByteArray) (k : Nat) : (s.extract 0 k).data.toList = s.data.toList.take k := by
  simp
theorem extract_eq (s : ByteArray) (k : Nat) : s.extract 0 k = ⟨(s.data.toList.take k).toArray⟩ := by
  rw [← extract_take]
theorem eta_bytes (s : ByteArray) : (⟨s.data.toList.toArray⟩ : ByteArray) = s := by cases s; simp

theorem step_take {α : Type} {L : List α} {k : Nat} {d : α} {T : List α} (h : L.drop k = d :: T) : k < L.length ∧ L.take (k + 1) = L.take k ++ [d] ∧ L.drop (k + 1) = T := by
  have hk : k < L.length := by
    rcases Nat.lt_or_ge k L.length with h1 | h1
    · exact h1
    · rw [List.drop_eq_nil_of_le h1] at h; cases h
  rw [List.drop_eq_getElem_cons hk] at h
  injection h with h1 h2
  exact ⟨hk, by rw [List.take_succ_eq_append_getElem hk, h1], h2⟩
theorem drop_nil_le {α : Type} {L : List α} {k : Nat} (h : L.drop k = []) : L.length ≤ k := by
  have := congrArg List.length h
  rw [List.length_drop, List.length_nil] at this
  omega
theorem rs_small : ∀ l : List UInt8, ∀ q ∈ rs l, q.1 ≤ 1114111 :=
  rs_induct (by simp [rs_nil]) (fun l he ih q hq => by
    rw [rs_step l he] at hq
    rcases List.mem_cons.1 hq with rfl | hq
    · exact decodeL_rune l
    · exact ih q hq)
theorem plainB_cons (d : Nat × Nat) (T : List (Nat × Nat)) : plainB (d :: T) = (!(decide (d.1 < 32) || d.1 == 127) && plainB T) := rfl
theorem plainB_bad {d : Nat × Nat} {T : List (Nat × Nat)} (h : d.1 < 32 ∨ d.1 = 127) : plainB (d :: T) = false := by
  rw [plainB_cons]
  rcases h with h | h <;> simp [h]
theorem plainB_good {d : Nat × Nat} {T : List (Nat × Nat)} (h : ¬ (d.1 < 32 ∨ d.1 = 127)) : plainB (d :: T) = plainB T := by
  rw [plainB_cons]
  have h1 : ¬ d.1 < 32 := fun x => h (.inl x)
  have h2 : ¬ d.1 = 127 := fun x => h (.inr x)
  simp [h1, h2]
theorem keyB_bad {l : List UInt8} (h : plainB (rs l) = false) : keyB l = false := by simp [keyB, h]
theorem keyB_all {l : List UInt8} (h : plainB (rs l) = true) : keyB l = (decide (1 ≤ count l) && decide (count l ≤ 40) && validD l) := by simp [keyB, h]
theorem keyB_short {l : List UInt8} (h : ¬ (1 ≤ count l ∧ count l ≤ 40)) : keyB l = false := by
  unfold keyB
  by_cases h1 : 1 ≤ count l
  · have h2 : ¬ count l ≤ 40 := fun x => h ⟨h1, x⟩
    simp [h2]
  · simp [h1]
theorem keyB_long {l : List UInt8} (hp : plainB (rs l) = true) (h1 : 1 ≤ count l) (h2 : count l ≤ 40) : keyB l = validD l := by simp [keyB, hp, h1, h2]

/-- The model's order of texts' bytes is ours. -/
theorem bytesLess_eq : ∀ a b : List UInt8, Op.bytesLess a b = bytesLess a b
  | [], [] => rfl
  | [], _ :: _ => rfl
  | _ :: _, [] => rfl
  | a :: x, b :: y => by
    simp only [Op.bytesLess, bytesLess, bytesLess_eq x y]
    by_cases e : a = b
    · subst e; simp
    · simp [e]
theorem bytesLess_toList (a b : ByteArray) : Op.bytesLess a.toList b.toList = bytesLess a.data.toList b.data.toList := by
  rw [ByteArray.toList_eq, ByteArray.toList_eq, bytesLess_eq]

/-- The order, begun at any pair of places. -/
def lessAt (a b x y : List UInt8) : Bool :=
  match lessR ((rs x).map (·.1)) ((rs y).map (·.1)) with
  | some z => z
  | none => bytesLess a b
theorem lessAt_all (a b : List UInt8) : lessAt a b a b = lessL a b := rfl
theorem lessAt_none (a b : List UInt8) : lessAt a b [] [] = bytesLess a b := rfl
theorem lessAt_left (a b y : List UInt8) (h : y ≠ []) : lessAt a b [] y = true := by
  unfold lessAt
  rw [rs_step y h]; rfl
theorem lessAt_right (a b x : List UInt8) (h : x ≠ []) : lessAt a b x [] = false := by
  unfold lessAt
  rw [rs_step x h]; rfl
theorem lessAt_ne (a b x y : List UInt8) (hx : x ≠ []) (hy : y ≠ []) (h : (decodeL x).1 ≠ (decodeL y).1) : lessAt a b x y = decide ((decodeL x).1 < (decodeL y).1) := by
  unfold lessAt
  rw [rs_step x hx, rs_step y hy]
  simp [lessR, h]
theorem lessAt_eq (a b x y : List UInt8) (hx : x ≠ []) (hy : y ≠ []) (h : (decodeL x).1 = (decodeL y).1) : lessAt a b x y = lessAt a b (x.drop (decodeL x).2) (y.drop (decodeL y).2) := by
  unfold lessAt
  rw [rs_step x hx, rs_step y hy]
  simp [lessR, h]
/-- The same over the runes' lists. -/
def lessD (a b : List UInt8) (x y : List (Nat × Nat)) : Bool :=
  match lessR (x.map (·.1)) (y.map (·.1)) with
  | some z => z
  | none => bytesLess a b
theorem lessD_all (a b : List UInt8) : lessL a b = lessD a b (rs a) (rs b) := rfl
theorem lessD_nn (a b : List UInt8) : lessD a b [] [] = bytesLess a b := rfl
theorem lessD_nc (a b : List UInt8) {x y : List (Nat × Nat)} (hx : x.length = 0) (hy : 0 < y.length) : lessD a b x y = true := by
  match x, y, hx, hy with
  | [], q :: y, _, _ => rfl
theorem lessD_cn (a b : List UInt8) {x y : List (Nat × Nat)} (hx : 0 < x.length) (hy : y.length = 0) : lessD a b x y = false := by
  match x, y, hx, hy with
  | q :: x, [], _, _ => rfl
theorem lessD_ne (a b : List UInt8) (p q : Nat × Nat) (x y : List (Nat × Nat)) (h : p.1 ≠ q.1) : lessD a b (p :: x) (q :: y) = decide (p.1 < q.1) := by simp [lessD, lessR, h]
theorem lessD_eq (a b : List UInt8) (p q : Nat × Nat) (x y : List (Nat × Nat)) (h : p.1 = q.1) : lessD a b (p :: x) (q :: y) = lessD a b x y := by simp [lessD, lessR, h]
theorem ne_of_size {s : ByteArray} (h : 0 < s.size) : s.data.toList ≠ [] := by
  intro hh
  have := len_toList s
  rw [hh, List.length_nil] at this
  omega
theorem nil_of_size {s : ByteArray} (h : ¬ 0 < s.size) : s.data.toList = [] := List.length_eq_zero_iff.1 (by rw [len_toList]; omega)
theorem isEmpty_toList (s : ByteArray) : s.toList.isEmpty = decide (s.size = 0) := by
  rw [ByteArray.toList_eq]
  by_cases h : s.size = 0
  · rw [nil_of_size (by omega)]
    simp [h]
  · have := ne_of_size (s := s) (by omega)
    cases e : s.data.toList with
    | nil => exact absurd e this
    | cons a l => simp [h]
theorem empty_no {s : ByteArray} (h : 0 < s.size) : s.toList.isEmpty = false := by rw [isEmpty_toList]; exact decide_eq_false (by omega)
theorem empty_yes {s : ByteArray} (h : ¬ 0 < s.size) : s.toList.isEmpty = true := by rw [isEmpty_toList]; exact decide_eq_true (by omega)
theorem extract_drop (s : ByteArray) (k : Nat) : (s.extract k s.size).data.toList = s.data.toList.drop k := by
  have : s.data.toList.length = s.size := len_toList s
  simp
  rw [List.take_of_length_le (by rw [List.length_drop]; omega)]

theorem foldR_snoc (p : List (Nat × Nat)) (q : Nat × Nat) : foldR (p ++ [q]) = foldR p ++ encodeRune (lower q.1) := by simp [foldR]
theorem foldR_len : ∀ p : List (Nat × Nat), (foldR p).length ≤ 4 * p.length
  | [] => by simp [foldR]
  | q :: p => by
    have h := foldR_len p
    have h1 := encodeRuneZ_length (lower q.1)
    have e : foldR (q :: p) = encodeRune (lower q.1) ++ foldR p := by simp [foldR]
    rw [e, List.length_append, List.length_cons]
    have h2 : (encodeRune (lower q.1)).length = (encodeRuneZ (lower q.1)).length := by simp [encodeRune]
    omega
theorem lower_range (r : Nat) (h : r ≤ 1114111) : -2147483648 ≤ lower r ∧ lower r ≤ 2147483647 := by unfold lower; split <;> omega

/-- The first rune and its bytes; of nothing: U+FFFD, no byte. -/
def decZ (l : List UInt8) : Nat × Nat := if l = [] then (65533, 0) else decodeL l
theorem decZ_at (s : ByteArray) (hp : 0 < s.size) : decZ s.data.toList = Utf8.decode s 0 ∧ (cutL s.data.toList 1).length = (Utf8.decode s 0).2 := by
  have hne : s.data.toList ≠ [] := by
    intro hh
    have := len_toList s
    rw [hh, List.length_nil] at this
    omega
  have h0 := decodeL_drop s 0
  rw [List.drop_zero] at h0
  have hle := decodeL_le _ hne
  refine ⟨by unfold decZ; rw [if_neg hne, h0], ?_⟩
  unfold cutL
  rw [if_neg (by omega), rs_step _ hne]
  show (List.take (wid (List.take 1 _)) _).length = _
  rw [List.take_succ_cons, List.take_zero, wid_cons, wid_nil, List.length_take, ← h0]
  omega
theorem decZ_ne {s : ByteArray} (h : 0 < s.size) : decZ s.data.toList = decodeL s.data.toList ∧ 1 ≤ (decZ s.data.toList).2 ∧ (decZ s.data.toList).2 ≤ s.size := by
  have hne := ne_of_size h
  have e : decZ s.data.toList = decodeL s.data.toList := by unfold decZ; rw [if_neg hne]
  rw [e]
  have h1 := decodeL_width s.data.toList
  have h2 := decodeL_le _ hne
  rw [len_toList] at h2
  exact ⟨rfl, h1, h2⟩
theorem decZ_empty (s : ByteArray) (hp : ¬ 0 < s.size) : decZ s.data.toList = (65533, 0) := by
  have : s.data.toList = [] := List.length_eq_zero_iff.1 (by rw [len_toList]; omega)
  rw [this]; rfl
end Ph
