/-
  Plain law: what the statements of chapter 1 say of the runes of a text: prefixes, texts put together, folding, the order. No program in sight.
-/
import Derived.Test.YtfnmfofipcnojaaDoorRunesPlain
set_option linter.unusedVariables false
namespace Ph
open Go Go.Lib

/-! ### how far the decoder looks -/
theorem getD_take (l : List UInt8) (k i : Nat) (h : i < k) : (l.take k).getD i 0 = l.getD i 0 := by
  simp [List.getD_eq_getElem?_getD, h]
theorem getD_take_ge (l : List UInt8) (k i : Nat) (h : k ≤ i) : (l.take k).getD i 0 = 0 := by
  simp [List.getD_eq_getElem?_getD, List.getElem?_take, Nat.not_lt.2 h]
theorem getD_append_lt (l t : List UInt8) (i : Nat) (h : i < l.length) : (l ++ t).getD i 0 = l.getD i 0 := by
  simp [List.getD_eq_getElem?_getD, List.getElem?_append_left h]

theorem decodeL_take (l : List UInt8) (k : Nat) (hk : 1 ≤ k) (hw : (decodeL l).2 ≤ k) (hl : 0 < l.length) : decodeL (l.take k) = decodeL l := by
  rw [decodeL_N] at hw ⊢
  rw [decodeL_N, getD_take l k 0 (by omega), List.length_take]
  rcases decodeN_shape l.length (l.getD 0 0).toNat (l.getD 1 0).toNat (l.getD 2 0).toNat (l.getD 3 0).toNat with ⟨c, e⟩ | ⟨c1, c2, c3, cv, e⟩ | ⟨c1, c2, c3, c4, cv, cs, e⟩ | ⟨c1, c2, c3, c4, c5, cv, cw, e⟩ | e
  · rw [e]; simp only [decodeN, if_pos c]
  · rw [e] at hw ⊢
    simp only at hw
    rw [getD_take l k 1 (by omega)]
    unfold decodeN
    rw [if_neg (by omega), if_pos ⟨c1, by omega, c3⟩, if_pos (by omega)]
  · rw [e] at hw ⊢
    simp only at hw
    rw [getD_take l k 1 (by omega), getD_take l k 2 (by omega)]
    have h3 := (l.getD 1 0).toNat_lt
    have h4 := (l.getD 2 0).toNat_lt
    unfold decodeN
    rw [if_neg (by omega), if_neg (by omega), if_pos ⟨c1, ⟨by omega, c3⟩, by omega, c4⟩, if_pos (by omega)]
  · rw [e] at hw ⊢
    simp only at hw
    rw [getD_take l k 1 (by omega), getD_take l k 2 (by omega), getD_take l k 3 (by omega)]
    unfold decodeN
    rw [if_neg (by omega), if_neg (by omega), if_neg (by omega), if_pos ⟨c1, ⟨by omega, c3⟩, ⟨by omega, c4⟩, by omega, c5⟩, if_pos (by omega)]
  · -- an error stays one in a shorter text
    rcases decodeN_shape (min k l.length) (l.getD 0 0).toNat ((l.take k).getD 1 0).toNat ((l.take k).getD 2 0).toNat ((l.take k).getD 3 0).toNat with ⟨c, e'⟩ | ⟨c1, c2, c3, cv, e'⟩ | ⟨c1, c2, c3, c4, cv, cs, e'⟩ | ⟨c1, c2, c3, c4, c5, cv, cw, e'⟩ | e'
    · simp only [decodeN, if_pos c]
    · exfalso
      rw [getD_take l k 1 (by omega)] at c3 cv
      unfold decodeN at e
      rw [if_neg (by omega), if_pos ⟨c1, by omega, c3⟩, if_pos (by omega)] at e
      simp at e
    · exfalso
      rw [getD_take l k 1 (by omega), getD_take l k 2 (by omega)] at cv
      rw [getD_take l k 1 (by omega)] at c3
      rw [getD_take l k 2 (by omega)] at c4
      rw [getD_take l k 1 (by omega), getD_take l k 2 (by omega)] at cs
      unfold decodeN at e
      rw [if_neg (by omega), if_neg (by omega), if_pos ⟨c1, ⟨by omega, c3⟩, by omega, c4⟩, if_pos (by omega)] at e
      simp at e
    · exfalso
      rw [getD_take l k 1 (by omega), getD_take l k 2 (by omega), getD_take l k 3 (by omega)] at cv cw
      rw [getD_take l k 1 (by omega)] at c3
      rw [getD_take l k 2 (by omega)] at c4
      rw [getD_take l k 3 (by omega)] at c5
      unfold decodeN at e
      rw [if_neg (by omega), if_neg (by omega), if_neg (by omega), if_pos ⟨c1, ⟨by omega, c3⟩, ⟨by omega, c4⟩, by omega, c5⟩, if_pos (by omega)] at e
      simp at e
    · rw [e', e]

/-- A true rune at a text's head is one whatever follows. -/
theorem decodeL_append (a t : List UInt8) (ha : a ≠ []) (hv : ¬ ((decodeL a).1 = 65533 ∧ (decodeL a).2 = 1)) : decodeL (a ++ t) = decodeL a := by
  have h0 : 0 < a.length := List.length_pos_iff.2 ha
  rw [decodeL_N] at hv
  rw [decodeL_N, decodeL_N a, getD_append_lt a t 0 h0, List.length_append]
  rcases decodeN_shape a.length (a.getD 0 0).toNat (a.getD 1 0).toNat (a.getD 2 0).toNat (a.getD 3 0).toNat with ⟨c, e⟩ | ⟨c1, c2, c3, cv, e⟩ | ⟨c1, c2, c3, c4, cv, cs, e⟩ | ⟨c1, c2, c3, c4, c5, cv, cw, e⟩ | e
  · rw [e]; simp only [decodeN, if_pos c]
  · rw [e]
    rw [getD_append_lt a t 1 (by omega)]
    unfold decodeN
    rw [if_neg (by omega), if_pos ⟨c1, by omega, c3⟩, if_pos (by omega)]
  · rw [e]
    rw [getD_append_lt a t 1 (by omega), getD_append_lt a t 2 (by omega)]
    have h3 := (a.getD 1 0).toNat_lt
    have h4 := (a.getD 2 0).toNat_lt
    unfold decodeN
    rw [if_neg (by omega), if_neg (by omega), if_pos ⟨c1, ⟨by omega, c3⟩, by omega, c4⟩, if_pos (by omega)]
  · rw [e]
    rw [getD_append_lt a t 1 (by omega), getD_append_lt a t 2 (by omega), getD_append_lt a t 3 (by omega)]
    unfold decodeN
    rw [if_neg (by omega), if_neg (by omega), if_neg (by omega), if_pos ⟨c1, ⟨by omega, c3⟩, ⟨by omega, c4⟩, by omega, c5⟩, if_pos (by omega)]
  · exact absurd ⟨by rw [e], by rw [e]⟩ hv

theorem validD_head {l : List UInt8} (he : l ≠ []) (h : validD l = true) : ¬ ((decodeL l).1 = 65533 ∧ (decodeL l).2 = 1) ∧ validD (l.drop (decodeL l).2) = true := by
  rw [validD_step l he] at h
  split at h
  · cases h
  · exact ⟨by assumption, h⟩

/-! ### two texts put together -/
theorem rs_append : ∀ a t : List UInt8, validD a = true → rs (a ++ t) = rs a ++ rs t := by
  intro a t
  refine rs_induct (motive := fun a => validD a = true → rs (a ++ t) = rs a ++ rs t) (fun _ => by simp [rs_nil]) (fun a he ih hv => ?_) a
  obtain ⟨h1, h2⟩ := validD_head he hv
  have hd := decodeL_append a t he h1
  have hle := decodeL_le a he
  rw [rs_step (a ++ t) (by simp [he]), rs_step a he, hd, List.drop_append_of_le_length hle, ih h2]
  rfl

theorem validD_append (a t : List UInt8) (h : validD a = true) : validD (a ++ t) = validD t := by
  have ha := validD_rs a
  rw [h] at ha
  rw [validD_rs, rs_append a t h, List.all_append, ← ha, validD_rs t]
  simp

/-- A byte from 0xf8 on is one rune, and none. -/
theorem decodeL_bad (c : UInt8) (t : List UInt8) (h : 248 ≤ c.toNat) : decodeL (c :: t) = (65533, 1) := by
  rw [decodeL_N]
  have := c.toNat_lt
  exact decodeN_bad _ _ _ _ _ (.inr (by simp; omega))
theorem rs_bad (c : UInt8) (t : List UInt8) (h : 248 ≤ c.toNat) : rs (c :: t) = (65533, 1) :: rs t := by
  rw [rs_step _ (by simp), decodeL_bad c t h]
  rfl

/-! ### cut at runes -/
theorem rs_split : ∀ (n : Nat) (l : List UInt8), rs (l.take (wid ((rs l).take n))) = (rs l).take n ∧ rs (l.drop (wid ((rs l).take n))) = (rs l).drop n
  | 0, l => by simp [wid_nil, rs_nil]
  | n + 1, l => by
    by_cases he : l = []
    · subst he; simp [rs_nil]
    · have hw := decodeL_width l
      have hle := decodeL_le l he
      have hp : 0 < l.length := List.length_pos_iff.2 he
      obtain ⟨i1, i2⟩ := rs_split n (l.drop (decodeL l).2)
      rw [rs_step l he, List.take_succ_cons, wid_cons, List.drop_succ_cons]
      constructor
      · have hd := decodeL_take l ((decodeL l).2 + wid (List.take n (rs (l.drop (decodeL l).2)))) (by omega) (by omega) hp
        have hne : l.take ((decodeL l).2 + wid (List.take n (rs (l.drop (decodeL l).2)))) ≠ [] := by
          intro hh
          have := congrArg List.length hh
          rw [List.length_take, List.length_nil] at this
          omega
        rw [rs_step _ hne, hd, List.drop_take, Nat.add_sub_cancel_left, i1]
      · rw [← List.drop_drop, i2]

theorem wid_take_le (l : List UInt8) (n : Nat) : wid ((rs l).take n) ≤ l.length := by
  have h := wid_rs l
  rw [← List.take_append_drop n (rs l), wid_append] at h
  omega

theorem cutL_count (l : List UInt8) (n : Int) : (count (cutL l n) : Int) = max 0 (min n (count l)) := by
  unfold cutL count
  split
  · simp [rs_nil]; omega
  · rw [(rs_split _ l).1]
    simp
    omega

theorem cutL_parts (l : List UInt8) (n : Int) : (cutL l n).length ≤ l.length ∧ l.take (cutL l n).length = cutL l n ∧ count (cutL l n) + count (l.drop (cutL l n).length) = count l := by
  unfold cutL
  split
  · simp [count, rs_nil]
  · have hw := wid_take_le l n.toNat
    have hl : (l.take (wid ((rs l).take n.toNat))).length = wid ((rs l).take n.toNat) := by simp; omega
    rw [hl]
    refine ⟨hw, rfl, ?_⟩
    unfold count
    rw [(rs_split _ l).1, (rs_split _ l).2]
    simp
    omega

theorem cutL_all (l : List UInt8) (n : Int) (h : (count l : Int) ≤ n) (h1 : 1 ≤ n) : cutL l n = l := by
  unfold cutL
  rw [if_neg (by omega), List.take_of_length_le (l := rs l) (by unfold count at h; omega), wid_rs]
  simp

/-! ### folding -/
theorem rune_valid (l : List UInt8) (he : l ≠ []) : (decodeL l).1 < 55296 ∨ (57344 ≤ (decodeL l).1 ∧ (decodeL l).1 ≤ 1114111) := by
  have hr := decodeL_rune l
  rw [decodeL_N] at hr ⊢
  have h3 := (l.getD 1 0).toNat_lt
  have h4 := (l.getD 2 0).toNat_lt
  rcases decodeN_shape l.length (l.getD 0 0).toNat (l.getD 1 0).toNat (l.getD 2 0).toNat (l.getD 3 0).toNat with ⟨c, e⟩ | ⟨c1, c2, c3, cv, e⟩ | ⟨c1, c2, c3, c4, cv, cs, e⟩ | ⟨c1, c2, c3, c4, c5, cv, cw, e⟩ | e
  all_goals (rw [e] at hr ⊢; dsimp only at hr ⊢; omega)

/-- A rune's bytes are read again. -/
def okRune (r : Int) : Prop := (0 ≤ r ∧ r < 55296) ∨ (57344 ≤ r ∧ r ≤ 1114111)

theorem u8 (z : Int) (h0 : 0 ≤ z) (h1 : z < 256) : (z.toNat.toUInt8).toNat = z.toNat := by
  simp; omega

theorem decode_encode (r : Int) (h : okRune r) (t : List UInt8) : decodeL (encodeRune r ++ t) = (r.toNat, (encodeRune r).length) := by
  unfold okRune at h
  obtain ⟨n, rfl⟩ := Int.eq_ofNat_of_zero_le (show 0 ≤ r by omega)
  rw [decodeL_N]
  unfold encodeRune
  by_cases a : n ≤ 127
  · rw [encodeRuneZ_one (by omega) (by omega)]
    simp only [List.map_cons, List.map_nil, List.cons_append, List.nil_append, List.getD_cons_zero, List.length_cons, List.length_nil]
    rw [u8 _ (by omega) (by omega), Int.toNat_natCast]
    unfold decodeN
    rw [if_pos (by omega)]
  · by_cases b : n ≤ 2047
    · rw [encodeRuneZ_two (by omega) (by omega)]
      simp only [List.map_cons, List.map_nil, List.cons_append, List.nil_append, List.getD_cons_zero, List.getD_cons_succ, List.length_cons, List.length_nil]
      rw [u8 _ (by omega) (by omega), u8 _ (by omega) (by omega), show (192 + (n : Int) / 64).toNat = 192 + n / 64 by omega, show (128 + (n : Int) % 64).toNat = 128 + n % 64 by omega, Int.toNat_natCast]
      unfold decodeN
      rw [if_neg (by omega), if_pos ⟨by omega, by omega, by omega⟩, if_pos (by omega)]
      exact congr (congrArg Prod.mk (by omega)) rfl
    · by_cases c : n ≤ 65535
      · rw [encodeRuneZ_three (by omega)]
        simp only [List.map_cons, List.map_nil, List.cons_append, List.nil_append, List.getD_cons_zero, List.getD_cons_succ, List.length_cons, List.length_nil]
        rw [u8 _ (by omega) (by omega), u8 _ (by omega) (by omega), u8 _ (by omega) (by omega), show (224 + (n : Int) / 4096).toNat = 224 + n / 4096 by omega, show (128 + (n : Int) / 64 % 64).toNat = 128 + n / 64 % 64 by omega, show (128 + (n : Int) % 64).toNat = 128 + n % 64 by omega, Int.toNat_natCast]
        unfold decodeN
        rw [if_neg (by omega), if_neg (by omega), if_pos ⟨by omega, ⟨by omega, by omega⟩, by omega, by omega⟩, if_pos (by omega)]
        exact congr (congrArg Prod.mk (by omega)) rfl
      · rw [encodeRuneZ_four (by omega) (by omega)]
        simp only [List.map_cons, List.map_nil, List.cons_append, List.nil_append, List.getD_cons_zero, List.getD_cons_succ, List.length_cons, List.length_nil]
        rw [u8 _ (by omega) (by omega), u8 _ (by omega) (by omega), u8 _ (by omega) (by omega), u8 _ (by omega) (by omega), show (240 + (n : Int) / 262144).toNat = 240 + n / 262144 by omega, show (128 + (n : Int) / 4096 % 64).toNat = 128 + n / 4096 % 64 by omega, show (128 + (n : Int) / 64 % 64).toNat = 128 + n / 64 % 64 by omega, show (128 + (n : Int) % 64).toNat = 128 + n % 64 by omega, Int.toNat_natCast]
        unfold decodeN
        rw [if_neg (by omega), if_neg (by omega), if_neg (by omega), if_pos ⟨by omega, ⟨by omega, by omega⟩, ⟨by omega, by omega⟩, by omega, by omega⟩, if_pos (by omega)]
        exact congr (congrArg Prod.mk (by omega)) rfl

theorem encode_len (r : Int) : 1 ≤ (encodeRune r).length := by
  have := encodeRuneZ_length r
  simp [encodeRune]; omega

theorem encode_len_err (r : Int) (h : okRune r) (he : r = 65533) : (encodeRune r).length = 3 := by
  subst he; decide

theorem lower_ok (r : Int) (h : okRune r) : okRune (lower r) := by
  unfold okRune at *
  unfold lower
  split <;> omega
theorem lower_lower (r : Int) : lower (lower r) = lower r := by
  unfold lower
  split
  · rw [if_neg (by omega)]
  · rfl
theorem lower_nonneg (r : Nat) : (0 : Int) ≤ lower r := by unfold lower; split <;> omega
theorem lower_plain (r : Nat) (h : ¬ (r < 32 ∨ r = 127)) : ¬ ((lower r).toNat < 32 ∨ (lower r).toNat = 127) := by
  unfold lower; split <;> omega

theorem okRune_of (l : List UInt8) (he : l ≠ []) : okRune ((decodeL l).1 : Int) := by
  have := rune_valid l he
  unfold okRune; omega

/-- The runes of a list of runes' bytes. -/
theorem rs_foldR : ∀ p : List (Nat × Nat), (∀ q ∈ p, okRune (q.1 : Int)) → rs (foldR p) = p.map fun q => ((lower q.1).toNat, (encodeRune (lower q.1)).length)
  | [], _ => rfl
  | q :: p, h => by
    have hq := lower_ok _ (h q (by simp))
    have hl := encode_len (lower q.1)
    have e : foldR (q :: p) = encodeRune (lower q.1) ++ foldR p := by simp [foldR]
    have hd := decode_encode _ hq (foldR p)
    have hne : encodeRune (lower q.1) ++ foldR p ≠ [] := by
      intro hh
      have := congrArg List.length hh
      rw [List.length_append, List.length_nil] at this
      omega
    rw [e, rs_step _ hne, hd, List.drop_left, rs_foldR p (fun x hx => h x (by simp [hx]))]
    rfl

theorem rs_ok : ∀ l : List UInt8, ∀ q ∈ rs l, okRune (q.1 : Int) :=
  rs_induct (by simp [rs_nil]) (fun l he ih q hq => by
    rw [rs_step l he] at hq
    rcases List.mem_cons.1 hq with rfl | hq
    · exact okRune_of l he
    · exact ih q hq)

theorem rs_foldL (l : List UInt8) : rs (foldL l) = (rs l).map fun q => ((lower q.1).toNat, (encodeRune (lower q.1)).length) := rs_foldR _ (rs_ok l)

theorem foldL_count (l : List UInt8) : count (foldL l) = count l := by simp [count, rs_foldL]

theorem foldL_valid (l : List UInt8) : validD (foldL l) = true := by
  rw [validD_rs, rs_foldL, List.all_map, List.all_eq_true]
  intro q hq
  have h0 := rs_ok l q hq
  have h1 := lower_ok _ h0
  simp only [Function.comp]
  by_cases h : lower q.1 = 65533
  · have := encode_len_err _ h1 h
    simp [this]
  · have : ¬ (lower q.1).toNat = 65533 := by
      have := lower_nonneg q.1
      omega
    simp [this]

theorem foldL_foldL (l : List UInt8) : foldL (foldL l) = foldL l := by
  show foldR (rs (foldL l)) = foldR (rs l)
  rw [rs_foldL]
  unfold foldR
  rw [List.flatMap_map]
  congr 1
  funext q
  have := lower_nonneg q.1
  have e : ((lower q.1).toNat : Int) = lower q.1 := by omega
  show encodeRune (lower ((lower q.1).toNat : Int)) = _
  rw [e, lower_lower]

theorem foldL_key (l : List UInt8) (h : keyB l = true) : keyB (foldL l) = true := by
  unfold keyB at *
  simp only [Bool.and_eq_true, decide_eq_true_eq] at h ⊢
  obtain ⟨⟨⟨h1, h2⟩, h3⟩, h4⟩ := h
  rw [foldL_count]
  refine ⟨⟨⟨?_, h2⟩, h3⟩, foldL_valid l⟩
  unfold plainB at *
  rw [rs_foldL, List.all_map, List.all_eq_true]
  intro q hq
  have := List.all_eq_true.1 h1 q hq
  simp at this
  have h5 := lower_plain q.1 (by omega)
  simp only [Function.comp]
  simp
  omega

theorem foldL_append (a t : List UInt8) (h : validD a = true) : foldL (a ++ t) = foldL a ++ foldL t := by
  unfold foldL foldR
  rw [rs_append a t h, List.flatMap_append]

/-! ### the order -/
theorem lessR_none : ∀ {x y : List Nat}, lessR x y = none → x = y
  | [], [], _ => rfl
  | [], _ :: _, h => by simp [lessR] at h
  | _ :: _, [], h => by simp [lessR] at h
  | a :: x, b :: y, h => by
    simp only [lessR] at h
    split at h
    · rw [lessR_none h]; congr
    · cases h
theorem lessR_self : ∀ x : List Nat, lessR x x = none
  | [] => rfl
  | a :: x => by simp [lessR, lessR_self x]
theorem lessR_swap : ∀ {x y : List Nat} {b : Bool}, lessR x y = some b → lessR y x = some (!b)
  | [], [], _, h => by simp [lessR] at h
  | [], _ :: _, _, h => by simp [lessR] at h; subst h; rfl
  | _ :: _, [], _, h => by simp [lessR] at h; subst h; rfl
  | a :: x, c :: y, b, h => by
    simp only [lessR] at h ⊢
    by_cases e : a = c
    · rw [if_pos e] at h
      rw [if_pos e.symm]
      exact lessR_swap h
    · rw [if_neg e] at h
      rw [if_neg (Ne.symm e)]
      simp only [Option.some.injEq] at h ⊢
      rw [← h]
      by_cases hlt : a < c <;> simp [hlt] <;> omega
theorem lessR_trans : ∀ {x y z : List Nat}, lessR x y = some true → lessR y z = some true → lessR x z = some true
  | [], [], _, h, _ => by simp [lessR] at h
  | [], _ :: _, [], _, h => by simp [lessR] at h
  | [], _ :: _, _ :: _, _, _ => rfl
  | _ :: _, [], _, h, _ => by simp [lessR] at h
  | _ :: _, _ :: _, [], _, h => by simp [lessR] at h
  | a :: x, b :: y, c :: z, h, h' => by
    simp only [lessR] at h h' ⊢
    by_cases e : a = b
    · rw [if_pos e] at h
      by_cases e' : b = c
      · rw [if_pos e'] at h'
        rw [if_pos (e.trans e')]
        exact lessR_trans h h'
      · rw [if_neg e'] at h'
        simp at h'
        rw [if_neg (by omega)]
        simp; omega
    · rw [if_neg e] at h
      simp at h
      by_cases e' : b = c
      · rw [if_pos e'] at h'
        rw [if_neg (by omega)]
        simp; omega
      · rw [if_neg e'] at h'
        simp at h'
        rw [if_neg (by omega)]
        simp; omega

theorem bytesLess_irr : ∀ x : List UInt8, bytesLess x x = false
  | [] => rfl
  | a :: x => by simp [bytesLess, bytesLess_irr x]
theorem bytesLess_total : ∀ x y : List UInt8, x ≠ y → (bytesLess x y || bytesLess y x) = true
  | [], [], h => absurd rfl h
  | [], _ :: _, _ => rfl
  | _ :: _, [], _ => rfl
  | a :: x, b :: y, h => by
    simp only [bytesLess]
    by_cases e : a = b
    · subst e
      simp only [if_true]
      exact bytesLess_total x y (fun hh => h (by rw [hh]))
    · rw [if_neg e, if_neg (Ne.symm e)]
      simp only [Bool.or_eq_true, decide_eq_true_eq, UInt8.lt_iff_toNat_lt]
      have : a.toNat ≠ b.toNat := fun hh => e (UInt8.toNat_inj.1 hh)
      omega
theorem bytesLess_asymm : ∀ x y : List UInt8, bytesLess x y = true → bytesLess y x = false
  | [], [], h => by simp [bytesLess] at h
  | [], _ :: _, _ => rfl
  | _ :: _, [], h => by simp [bytesLess] at h
  | a :: x, b :: y, h => by
    simp only [bytesLess] at h ⊢
    by_cases e : a = b
    · rw [if_pos e] at h
      rw [if_pos e.symm]
      exact bytesLess_asymm x y h
    · rw [if_neg e] at h
      rw [if_neg (Ne.symm e)]
      simp only [decide_eq_true_eq, decide_eq_false_iff_not, UInt8.lt_iff_toNat_lt] at h ⊢
      omega
theorem bytesLess_trans : ∀ x y z : List UInt8, bytesLess x y = true → bytesLess y z = true → bytesLess x z = true
  | [], [], _, h, _ => by simp [bytesLess] at h
  | [], _ :: _, [], _, h => by simp [bytesLess] at h
  | [], _ :: _, _ :: _, _, _ => rfl
  | _ :: _, [], _, h, _ => by simp [bytesLess] at h
  | _ :: _, _ :: _, [], _, h => by simp [bytesLess] at h
  | a :: x, b :: y, c :: z, h, h' => by
    simp only [bytesLess] at h h' ⊢
    by_cases e : a = b
    · rw [if_pos e] at h
      by_cases e' : b = c
      · rw [if_pos e'] at h'
        rw [if_pos (e.trans e')]
        exact bytesLess_trans x y z h h'
      · rw [if_neg e'] at h'
        subst e
        rw [if_neg e']
        exact h'
    · rw [if_neg e] at h
      simp only [decide_eq_true_eq, UInt8.lt_iff_toNat_lt] at h
      by_cases e' : b = c
      · subst e'
        rw [if_neg e]
        simpa [UInt8.lt_iff_toNat_lt] using h
      · rw [if_neg e'] at h'
        simp only [decide_eq_true_eq, UInt8.lt_iff_toNat_lt] at h'
        have : a ≠ c := fun hh => by subst hh; omega
        rw [if_neg this]
        simp only [decide_eq_true_eq, UInt8.lt_iff_toNat_lt]
        omega

/-- The order of two texts: by their runes, else by their bytes. -/
def lessL (a b : List UInt8) : Bool :=
  match lessR ((rs a).map (·.1)) ((rs b).map (·.1)) with
  | some x => x
  | none => bytesLess a b

theorem lessL_asymm (a b : List UInt8) (h : lessL a b = true) : lessL b a = false := by
  unfold lessL at *
  cases e : lessR ((rs a).map (·.1)) ((rs b).map (·.1)) with
  | some x =>
    rw [e] at h
    rw [lessR_swap e]
    simp at h
    simp [h]
  | none =>
    rw [e] at h
    have e2 := lessR_none e
    rw [e2, lessR_self]
    exact bytesLess_asymm a b h
theorem lessL_total (a b : List UInt8) (h : a ≠ b) : (lessL a b || lessL b a) = true := by
  unfold lessL at *
  cases e : lessR ((rs a).map (·.1)) ((rs b).map (·.1)) with
  | some x =>
    rw [lessR_swap e]
    cases x <;> rfl
  | none =>
    have e2 := lessR_none e
    rw [e2, lessR_self]
    exact bytesLess_total a b h
theorem lessL_trans (a b c : List UInt8) (h : lessL a b = true) (h' : lessL b c = true) : lessL a c = true := by
  unfold lessL at *
  cases e : lessR ((rs a).map (·.1)) ((rs b).map (·.1)) with
  | some x =>
    rw [e] at h
    simp at h
    subst h
    cases e' : lessR ((rs b).map (·.1)) ((rs c).map (·.1)) with
    | some y =>
      rw [e'] at h'
      simp at h'
      subst h'
      rw [lessR_trans e e']
    | none =>
      rw [← lessR_none e', e]
  | none =>
    rw [e] at h
    rw [lessR_none e]
    cases e' : lessR ((rs b).map (·.1)) ((rs c).map (·.1)) with
    | some y => rw [e'] at h'; exact h'
    | none =>
      rw [e'] at h'
      exact bytesLess_trans a b c h h'
theorem lessL_irr (a : List UInt8) : lessL a a = false := by
  unfold lessL
  rw [lessR_self]
  exact bytesLess_irr a

/-- What is longer is not less. -/
theorem lessR_append : ∀ x y : List Nat, lessR (x ++ y) x = if y = [] then none else some false
  | [], [] => rfl
  | [], _ :: _ => rfl
  | a :: x, y => by simp [lessR, lessR_append x y]
theorem lessL_append (a t : List UInt8) (h : validD a = true) : lessL (a ++ t) a = false := by
  unfold lessL
  rw [rs_append a t h, List.map_append, lessR_append]
  by_cases e : t = []
  · subst e; simp [rs_nil, bytesLess_irr]
  · have : rs t ≠ [] := fun hh => e (rs_eq_nil hh)
    simp [this]
end Ph
