/-
  Texts of the proof, one behind the other (part 3).
-/
import Derived.Test.YtmalklakaalaoaaGreatDoorM2
import Derived.WalkKit
import Derived.WalkLawsBesides
import Derived.Laws.IdiomStrings
import Derived.Lib.UnsafeStr
import Derived.Lib.RuneBytes
import Derived.Deep.AppendLies
import Derived.Deep.Draws
import Derived.Test.YtmalklakaalaoaaGreatDoorProg
import Derived.WalkSpells
import Derived.Lib.Hide
import Derived.Deep.QuietTactic
import Derived.BigQuiet
import Derived.Laws.StructEq
import Derived.Laws.Bits64
import Derived.Laws.Bits64b
import Derived.Laws.BitsLemmas
import Derived.Laws.DeepNot64
import Derived.WalkSmall
import Derived.Test.YtmalklakaalaoaaGreatDoorChecked
set_option linter.unusedVariables false
namespace Ph
open Go Go.Lib
def Rk (r0 : Int) (b : Nat → Nat) : Nat → Int
  | 0 => r0
  | 1 => r0
  | k + 2 => Rk r0 b (k + 1) * 64 + b (k + 1) - 128
def bt (s : ByteArray) (k : Nat) : Nat := (s.data.toList.getD k 0).toNat
theorem bt_lt (s : ByteArray) (k : Nat) : bt s k < 256 := UInt8.toNat_lt _
theorem bt_at (s : ByteArray) (k : Nat) (h : k < s.size) : bt s k = (s[k]'h).toNat := by
  have hl := len_toList s
  unfold bt
  rw [List.getD_eq_getElem?_getD, List.getElem?_eq_getElem (by omega)]
  simp
  rfl
theorem decZ_bt (s : ByteArray) (h : 0 < s.size) : decZ s.data.toList = decodeN s.size (bt s 0) (bt s 1) (bt s 2) (bt s 3) := by
  rw [(decZ_ne h).1, decodeL_N, len_toList]
  rfl
theorem d1 (n b0 b1 b2 b3 : Nat) (h : b0 < 128) : decodeN n b0 b1 b2 b3 = (b0, 1) := by unfold decodeN; rw [if_pos h]
theorem d0 (n b0 b1 b2 b3 : Nat) (h : 128 ≤ b0 ∧ b0 < 192 ∨ 248 ≤ b0) (h' : b0 < 256) : decodeN n b0 b1 b2 b3 = (65533, 1) := decodeN_bad _ _ _ _ _ (by omega)
theorem d2s (n b0 b1 b2 b3 : Nat) (h : 192 ≤ b0 ∧ b0 < 224) (hn : n < 2) : decodeN n b0 b1 b2 b3 = (65533, 1) := by
  unfold decodeN; rw [if_neg (by omega), if_neg (by omega), if_neg (by omega), if_neg (by omega)]
theorem d2b (n : Nat) (b : Nat → Nat) (hb : ∀ k, b k < 256) (h : 192 ≤ b 0 ∧ b 0 < 224) (k : Nat) (h1 : 1 ≤ k) (h2 : k < 2) (hk : b k < 128 ∨ 191 < b k) : decodeN n (b 0) (b 1) (b 2) (b 3) = (65533, 1) := by
  obtain rfl : k = 1 := by omega
  have := hb 1
  unfold decodeN; rw [if_neg (by omega), if_neg (by omega), if_neg (by omega), if_neg (by omega)]
theorem d2e (n : Nat) (b : Nat → Nat) (h : 192 ≤ b 0 ∧ b 0 < 224) (hn : 2 ≤ n) (h1 : ∀ j, 1 ≤ j → j < 2 → 128 ≤ b j ∧ b j ≤ 191) (hr : Rk (b 0 - 192) b 2 < 128) : decodeN n (b 0) (b 1) (b 2) (b 3) = (65533, 1) := by
  have j1 := h1 1 (by omega) (by omega)
  simp only [Rk, Nat.reduceAdd] at hr
  unfold decodeN; rw [if_neg (by omega), if_pos ⟨by omega, by omega, by omega⟩, if_neg (by omega)]
theorem d2o (n : Nat) (b : Nat → Nat) (h : 192 ≤ b 0 ∧ b 0 < 224) (hn : 2 ≤ n) (h1 : ∀ j, 1 ≤ j → j < 2 → 128 ≤ b j ∧ b j ≤ 191) (hr : ¬ Rk (b 0 - 192) b 2 < 128) :
    ((decodeN n (b 0) (b 1) (b 2) (b 3)).1 : Int) = Rk (b 0 - 192) b 2 ∧ (decodeN n (b 0) (b 1) (b 2) (b 3)).2 = 2 ∧ Rk (b 0 - 192) b 2 < 55296 := by
  have j1 := h1 1 (by omega) (by omega)
  simp only [Rk, Nat.reduceAdd] at hr ⊢
  unfold decodeN; rw [if_neg (by omega), if_pos ⟨by omega, by omega, by omega⟩, if_pos (by omega)]
  exact ⟨by simp only; omega, rfl, by omega⟩
theorem d3s (n b0 b1 b2 b3 : Nat) (h : 224 ≤ b0 ∧ b0 < 240) (hn : n < 3) : decodeN n b0 b1 b2 b3 = (65533, 1) := by
  unfold decodeN; rw [if_neg (by omega), if_neg (by omega), if_neg (by omega), if_neg (by omega)]
theorem d3b (n : Nat) (b : Nat → Nat) (hb : ∀ k, b k < 256) (h : 224 ≤ b 0 ∧ b 0 < 240) (k : Nat) (h1 : 1 ≤ k) (h2 : k < 3) (hk : b k < 128 ∨ 191 < b k) : decodeN n (b 0) (b 1) (b 2) (b 3) = (65533, 1) := by
  have := hb 1
  have := hb 2
  unfold decodeN
  rcases (show k = 1 ∨ k = 2 by omega) with rfl | rfl
  · rw [if_neg (by omega), if_neg (by omega), if_neg (by omega), if_neg (by omega)]
  · rw [if_neg (by omega), if_neg (by omega), if_neg (by omega), if_neg (by omega)]
theorem d3e (n : Nat) (b : Nat → Nat) (h : 224 ≤ b 0 ∧ b 0 < 240) (hn : 3 ≤ n) (h1 : ∀ j, 1 ≤ j → j < 3 → 128 ≤ b j ∧ b j ≤ 191) (hr : Rk (b 0 - 224) b 3 < 2048 ∨ (55296 ≤ Rk (b 0 - 224) b 3 ∧ Rk (b 0 - 224) b 3 < 57344)) : decodeN n (b 0) (b 1) (b 2) (b 3) = (65533, 1) := by
  have j1 := h1 1 (by omega) (by omega)
  have j2 := h1 2 (by omega) (by omega)
  simp only [Rk, Nat.reduceAdd] at hr
  unfold decodeN; rw [if_neg (by omega), if_neg (by omega), if_pos ⟨by omega, ⟨by omega, by omega⟩, by omega, by omega⟩, if_neg (by omega)]
theorem d3o (n : Nat) (b : Nat → Nat) (h : 224 ≤ b 0 ∧ b 0 < 240) (hn : 3 ≤ n) (h1 : ∀ j, 1 ≤ j → j < 3 → 128 ≤ b j ∧ b j ≤ 191) (hr : ¬ (Rk (b 0 - 224) b 3 < 2048 ∨ (55296 ≤ Rk (b 0 - 224) b 3 ∧ Rk (b 0 - 224) b 3 < 57344))) :
    ((decodeN n (b 0) (b 1) (b 2) (b 3)).1 : Int) = Rk (b 0 - 224) b 3 ∧ (decodeN n (b 0) (b 1) (b 2) (b 3)).2 = 3 ∧ Rk (b 0 - 224) b 3 ≤ 1114111 := by
  have j1 := h1 1 (by omega) (by omega)
  have j2 := h1 2 (by omega) (by omega)
  simp only [Rk, Nat.reduceAdd] at hr ⊢
  unfold decodeN; rw [if_neg (by omega), if_neg (by omega), if_pos ⟨by omega, ⟨by omega, by omega⟩, by omega, by omega⟩, if_pos (by omega)]
  exact ⟨by simp only; omega, rfl, by omega⟩
theorem d4s (n b0 b1 b2 b3 : Nat) (h : 240 ≤ b0 ∧ b0 < 248) (hn : n < 4) : decodeN n b0 b1 b2 b3 = (65533, 1) := by
  unfold decodeN; rw [if_neg (by omega), if_neg (by omega), if_neg (by omega), if_neg (by omega)]
theorem d4b (n : Nat) (b : Nat → Nat) (hb : ∀ k, b k < 256) (h : 240 ≤ b 0 ∧ b 0 < 248) (k : Nat) (h1 : 1 ≤ k) (h2 : k < 4) (hk : b k < 128 ∨ 191 < b k) : decodeN n (b 0) (b 1) (b 2) (b 3) = (65533, 1) := by
  have := hb 1
  have := hb 2
  have := hb 3
  unfold decodeN
  rcases (show k = 1 ∨ k = 2 ∨ k = 3 by omega) with rfl | rfl | rfl
  · rw [if_neg (by omega), if_neg (by omega), if_neg (by omega), if_neg (by omega)]
  · rw [if_neg (by omega), if_neg (by omega), if_neg (by omega), if_neg (by omega)]
  · rw [if_neg (by omega), if_neg (by omega), if_neg (by omega), if_neg (by omega)]
theorem d4e (n : Nat) (b : Nat → Nat) (h : 240 ≤ b 0 ∧ b 0 < 248) (hn : 4 ≤ n) (h1 : ∀ j, 1 ≤ j → j < 4 → 128 ≤ b j ∧ b j ≤ 191) (hr : Rk (b 0 - 240) b 4 < 65536 ∨ 1114111 < Rk (b 0 - 240) b 4 ∨ (55296 ≤ Rk (b 0 - 240) b 4 ∧ Rk (b 0 - 240) b 4 < 57344)) : decodeN n (b 0) (b 1) (b 2) (b 3) = (65533, 1) := by
  have j1 := h1 1 (by omega) (by omega)
  have j2 := h1 2 (by omega) (by omega)
  have j3 := h1 3 (by omega) (by omega)
  simp only [Rk, Nat.reduceAdd] at hr
  unfold decodeN; rw [if_neg (by omega), if_neg (by omega), if_neg (by omega), if_pos ⟨by omega, ⟨by omega, by omega⟩, ⟨by omega, by omega⟩, by omega, by omega⟩, if_neg (by omega)]
theorem d4o (n : Nat) (b : Nat → Nat) (h : 240 ≤ b 0 ∧ b 0 < 248) (hn : 4 ≤ n) (h1 : ∀ j, 1 ≤ j → j < 4 → 128 ≤ b j ∧ b j ≤ 191) (hr : ¬ (Rk (b 0 - 240) b 4 < 65536 ∨ 1114111 < Rk (b 0 - 240) b 4 ∨ (55296 ≤ Rk (b 0 - 240) b 4 ∧ Rk (b 0 - 240) b 4 < 57344))) :
    ((decodeN n (b 0) (b 1) (b 2) (b 3)).1 : Int) = Rk (b 0 - 240) b 4 ∧ (decodeN n (b 0) (b 1) (b 2) (b 3)).2 = 4 := by
  have j1 := h1 1 (by omega) (by omega)
  have j2 := h1 2 (by omega) (by omega)
  have j3 := h1 3 (by omega) (by omega)
  simp only [Rk, Nat.reduceAdd] at hr ⊢
  unfold decodeN; rw [if_neg (by omega), if_neg (by omega), if_neg (by omega), if_pos ⟨by omega, ⟨by omega, by omega⟩, ⟨by omega, by omega⟩, by omega, by omega⟩, if_pos (by omega)]
  exact ⟨by simp only; omega, rfl⟩
theorem Rk_bd (r0 : Int) (b : Nat → Nat) (h0 : 0 ≤ r0) (h1 : r0 < 32) : ∀ k, k ≤ 4 → (∀ j, 1 ≤ j → j < k → 128 ≤ b j ∧ b j ≤ 191) → 0 ≤ Rk r0 b k ∧ Rk r0 b k < 8388608
  | 0, _, _ => by simp only [Rk]; omega
  | 1, _, _ => by simp only [Rk]; omega
  | 2, _, h => by have := h 1 (by omega) (by omega); simp only [Rk, Nat.reduceAdd]; omega
  | 3, _, h => by have := h 1 (by omega) (by omega); have := h 2 (by omega) (by omega); simp only [Rk, Nat.reduceAdd]; omega
  | 4, _, h => by have := h 1 (by omega) (by omega); have := h 2 (by omega) (by omega); have := h 3 (by omega) (by omega); simp only [Rk, Nat.reduceAdd]; omega
theorem Rk_succ (r0 : Int) (b : Nat → Nat) (k : Nat) (h : 1 ≤ k) : Rk r0 b (k + 1) = Rk r0 b k * 64 + b k - 128 := by
  obtain ⟨j, rfl⟩ : ∃ j, k = j + 1 := ⟨k - 1, by omega⟩
  rfl
end Ph

set_option linter.unusedVariables false
namespace Go.Proofs.YtmalklakaalaoaaGreatDoor
open Go.RowKit
-- pieces
theorem ret_dec {s : ByteArray} {a b : Int} (h1 : a = (Ph.decZ s.data.toList).1) (h2 : b = (Ph.decZ s.data.toList).2) : Ending.returned (.tuple #[.int .i32 a, .int .i64 b]) = .returned (.tuple #[.int .i32 (Ph.decZ s.data.toList).1, .int .i64 (Ph.decZ s.data.toList).2]) := by rw [h1, h2]
theorem ret_dec_err {s : ByteArray} (h : Ph.decZ s.data.toList = (65533, 1)) : Ending.returned (.tuple #[.int .i32 65533, .int .i64 1]) = .returned (.tuple #[.int .i32 (Ph.decZ s.data.toList).1, .int .i64 (Ph.decZ s.data.toList).2]) := by rw [h]; rfl
set_option maxRecDepth 100000 in
set_option maxHeartbeats 400000 in
theorem dec_short (s : ByteArray) (w : World) (hp : ¬ 0 < s.size) :
    Calls Tryz.prog 130 #[.string s] w fun e w' => e = .returned (.tuple #[.int .i32 (Ph.decZ s.data.toList).1, .int .i64 (Ph.decZ s.data.toList).2]) ∧ w = w' := by
  have ex := Ph.empty_yes hp
  have HD := Lib.hid (Ph.decZ_empty s hp)
  go_enter Tryz.func130, Tryz.ntmps130
  go_wp2
  go_ret2
  exact ⟨by rw [HD.out]; rfl, rfl⟩
set_option maxRecDepth 100000 in
set_option maxHeartbeats 400000 in
theorem dec_ascii (s : ByteArray) (w : World) (hp : 0 < s.size) (h0 : (s[0]'hp).toNat < 128) :
    Calls Tryz.prog 130 #[.string s] w fun e w' => e = .returned (.tuple #[.int .i32 (Ph.decZ s.data.toList).1, .int .i64 (Ph.decZ s.data.toList).2]) ∧ w = w' := by
  have ex := Ph.empty_no hp
  have HD : Hid (Ph.decZ s.data.toList = ((s[0]'hp).toNat, 1)) := by
    show _ = _
    rw [Ph.decZ_bt s hp, Ph.bt_at s 0 hp, Ph.d1 _ _ _ _ _ h0]
  have h0' : ((s[0]'hp).toNat : Int) < 128 := by omega
  have h0'' := (s[0]'hp).toNat_lt
  go_enter Tryz.func130, Tryz.ntmps130
  go_wp2
  go_ret2
  exact ⟨by rw [HD.out]; rfl, rfl⟩
set_option maxRecDepth 100000 in
set_option maxHeartbeats 400000 in
theorem dec_none (s : ByteArray) (w : World) (hp : 0 < s.size) (h0 : 128 ≤ (s[0]'hp).toNat ∧ (s[0]'hp).toNat < 192 ∨ 248 ≤ (s[0]'hp).toNat) :
    Calls Tryz.prog 130 #[.string s] w fun e w' => e = .returned (.tuple #[.int .i32 (Ph.decZ s.data.toList).1, .int .i64 (Ph.decZ s.data.toList).2]) ∧ w = w' := by
  have ex := Ph.empty_no hp
  have h0'' := (s[0]'hp).toNat_lt
  have HD : Hid (Ph.decZ s.data.toList = (65533, 1)) := by
    show _ = _
    rw [Ph.decZ_bt s hp, Ph.bt_at s 0 hp, Ph.d0 _ _ _ _ _ h0 (by omega)]
  rcases h0 with ⟨h1, h2⟩ | h1
  · have h1' : (128 : Int) ≤ ((s[0]'hp).toNat : Int) := by omega
    have h2' : ((s[0]'hp).toNat : Int) < 192 := by omega
    go_enter Tryz.func130, Tryz.ntmps130
    go_wp2
    go_ret2
    exact ⟨ret_dec_err HD.out, rfl⟩
  · have h1' : (248 : Int) ≤ ((s[0]'hp).toNat : Int) := by omega
    go_enter Tryz.func130, Tryz.ntmps130
    go_wp2
    go_ret2
    exact ⟨ret_dec_err HD.out, rfl⟩
set_option maxRecDepth 100000 in
set_option maxHeartbeats 800000 in
theorem dec_2 (s : ByteArray) (w : World) (hs : s.size ≤ 9223372036854775807) (hp : 0 < s.size) (h0 : 192 ≤ (s[0]'hp).toNat) (h1 : (s[0]'hp).toNat < 224) :
    Calls Tryz.prog 130 #[.string s] w fun e w' => e = .returned (.tuple #[.int .i32 (Ph.decZ s.data.toList).1, .int .i64 (Ph.decZ s.data.toList).2]) ∧ w = w' := by
  have ex := Ph.empty_no hp
  have hd := Ph.decZ_bt s hp
  have h0' : (192 : Int) ≤ ((s[0]'hp).toNat : Int) := by omega
  have h1' : ((s[0]'hp).toNat : Int) < 224 := by omega
  have HB : Hid (192 ≤ Ph.bt s 0 ∧ Ph.bt s 0 < 224) := by rw [Ph.bt_at s 0 hp]; exact ⟨h0, h1⟩
  have HZ : Hid (((s[0]'hp).toNat : Int) = Ph.bt s 0) := by show _ = _; rw [Ph.bt_at s 0 hp]
  by_cases hn : s.size < 2
  · have HD : Hid (Ph.decZ s.data.toList = (65533, 1)) := by
      show _ = _
      rw [hd, Ph.d2s _ _ _ _ _ HB.out hn]
    have hn' : (s.size : Int) < 2 := by omega
    clear hd
    go_enter Tryz.func130, Tryz.ntmps130
    go_wp2
    go_ret2
    exact ⟨ret_dec_err HD.out, rfl⟩
  · have hn' : (2 : Int) ≤ (s.size : Int) := by omega
    have HD := Lib.hid hd
    clear hd
    go_enter Tryz.func130, Tryz.ntmps130
    go_wp2
    go_loop [7, 8] (fun r i => ∃ k : Nat, 1 ≤ k ∧ k ≤ 2 ∧ i = .int .i64 k ∧ r = .int .i32 (Ph.Rk ((Ph.bt s 0 : Int) - 192) (Ph.bt s) k) ∧ Hid (∀ j, 1 ≤ j → j < k → 128 ≤ Ph.bt s j ∧ Ph.bt s j ≤ 191)) (fun _ i => 2 - (intOf i).toNat)
    case atStart => exact ⟨1, by omega, by omega, rfl, by rw [HZ.out]; rfl, fun j h1 h2 => by omega⟩
    case round =>
      obtain ⟨k, hk1, hk2, rfl, rfl, HJ⟩ := hrel
      have hR := Ph.Rk_bd ((Ph.bt s 0 : Int) - 192) (Ph.bt s) (by have := HB.out; omega) (by have := HB.out; omega) k (by omega) HJ.out
      obtain ⟨hR0, hR1⟩ := hR
      by_cases hk : k < 2
      · have hks : k < s.size := by omega
        have hbk := Ph.bt_at s k hks
        have hk' : (k : Int) < 2 := by omega
        have hbl := (s[k]'hks).toNat_lt
        have HK : Hid (Ph.bt s k = (s[k]'hks).toNat) := hbk
        clear hbk
        have bad : Ph.bt s k < 128 ∨ 191 < Ph.bt s k → Ph.decZ s.data.toList = (65533, 1) := fun h => by rw [HD.out, Ph.d2b _ _ (Ph.bt_lt s) HB.out k hk1 hk h]
        have BAD := Lib.hid bad
        clear bad
        by_cases hc1 : (s[k]'hks).toNat < 128
        · have hc1' : ((s[k]'hks).toNat : Int) < 128 := by omega
          go_wp2
          go_ret2
          exact ⟨ret_dec_err (BAD.out (.inl (by rw [HK.out]; exact hc1))), rfl⟩
        · have hc1' : (128 : Int) ≤ ((s[k]'hks).toNat : Int) := by omega
          by_cases hc2 : 191 < (s[k]'hks).toNat
          · have hc2' : (191 : Int) < ((s[k]'hks).toNat : Int) := by omega
            go_wp2
            go_ret2
            exact ⟨ret_dec_err (BAD.out (.inr (by rw [HK.out]; exact hc2))), rfl⟩
          · have hc2' : ((s[k]'hks).toNat : Int) ≤ 191 := by omega
            have HS : Hid (Ph.Rk ((Ph.bt s 0 : Int) - 192) (Ph.bt s) (k + 1) = Ph.Rk ((Ph.bt s 0 : Int) - 192) (Ph.bt s) k * 64 + ((s[k]'hks).toNat : Int) - 128) := by
              show _ = _
              rw [Ph.Rk_succ _ _ _ hk1, HK.out]
            go_wp2
            go_round
            case rel =>
              refine ⟨k + 1, by omega, by omega, by go_num, by rw [HS.out], fun j h1 h2 => ?_⟩
              by_cases hj : j < k
              · exact HJ.out j h1 hj
              · obtain rfl : j = k := by omega
                rw [HK.out]; omega
            case measure => simp [intOf]; omega
      · obtain rfl : k = 2 := by omega
        have hk' : ¬ ((2 : Nat) : Int) < 2 := by omega
        have bad := fun h => Ph.d2e s.size (Ph.bt s) HB.out (by omega) HJ.out h
        have good := fun h => Ph.d2o s.size (Ph.bt s) HB.out (by omega) HJ.out h
        rw [← HD.out] at bad good
        have BAD := Lib.hid bad
        have GOOD := Lib.hid good
        clear bad good
        generalize Ph.Rk ((Ph.bt s 0 : Int) - 192) (Ph.bt s) 2 = R at *
        go_wp2
        all_goals
          go_ret2
          refine ⟨?_, rfl⟩
          first
            | exact ret_dec_err (BAD.out (by omega))
            | (have G := GOOD.out (by omega); exact ret_dec G.1.symm (by rw [G.2.1]; rfl))
            | (exfalso; have G := GOOD.out (by omega); omega)
set_option maxRecDepth 100000 in
set_option maxHeartbeats 800000 in
theorem dec_3 (s : ByteArray) (w : World) (hs : s.size ≤ 9223372036854775807) (hp : 0 < s.size) (h0 : 224 ≤ (s[0]'hp).toNat) (h1 : (s[0]'hp).toNat < 240) :
    Calls Tryz.prog 130 #[.string s] w fun e w' => e = .returned (.tuple #[.int .i32 (Ph.decZ s.data.toList).1, .int .i64 (Ph.decZ s.data.toList).2]) ∧ w = w' := by
  have ex := Ph.empty_no hp
  have hd := Ph.decZ_bt s hp
  have h0' : (224 : Int) ≤ ((s[0]'hp).toNat : Int) := by omega
  have h1' : ((s[0]'hp).toNat : Int) < 240 := by omega
  have HB : Hid (224 ≤ Ph.bt s 0 ∧ Ph.bt s 0 < 240) := by rw [Ph.bt_at s 0 hp]; exact ⟨h0, h1⟩
  have HZ : Hid (((s[0]'hp).toNat : Int) = Ph.bt s 0) := by show _ = _; rw [Ph.bt_at s 0 hp]
  by_cases hn : s.size < 3
  · have HD : Hid (Ph.decZ s.data.toList = (65533, 1)) := by
      show _ = _
      rw [hd, Ph.d3s _ _ _ _ _ HB.out hn]
    have hn' : (s.size : Int) < 3 := by omega
    clear hd
    go_enter Tryz.func130, Tryz.ntmps130
    go_wp2
    go_ret2
    exact ⟨ret_dec_err HD.out, rfl⟩
  · have hn' : (3 : Int) ≤ (s.size : Int) := by omega
    have HD := Lib.hid hd
    clear hd
    go_enter Tryz.func130, Tryz.ntmps130
    go_wp2
    go_loop [7, 8] (fun r i => ∃ k : Nat, 1 ≤ k ∧ k ≤ 3 ∧ i = .int .i64 k ∧ r = .int .i32 (Ph.Rk ((Ph.bt s 0 : Int) - 224) (Ph.bt s) k) ∧ Hid (∀ j, 1 ≤ j → j < k → 128 ≤ Ph.bt s j ∧ Ph.bt s j ≤ 191)) (fun _ i => 3 - (intOf i).toNat)
    case atStart => exact ⟨1, by omega, by omega, rfl, by rw [HZ.out]; rfl, fun j h1 h2 => by omega⟩
    case round =>
      obtain ⟨k, hk1, hk2, rfl, rfl, HJ⟩ := hrel
      have hR := Ph.Rk_bd ((Ph.bt s 0 : Int) - 224) (Ph.bt s) (by have := HB.out; omega) (by have := HB.out; omega) k (by omega) HJ.out
      obtain ⟨hR0, hR1⟩ := hR
      by_cases hk : k < 3
      · have hks : k < s.size := by omega
        have hbk := Ph.bt_at s k hks
        have hk' : (k : Int) < 3 := by omega
        have hbl := (s[k]'hks).toNat_lt
        have HK : Hid (Ph.bt s k = (s[k]'hks).toNat) := hbk
        clear hbk
        have bad : Ph.bt s k < 128 ∨ 191 < Ph.bt s k → Ph.decZ s.data.toList = (65533, 1) := fun h => by rw [HD.out, Ph.d3b _ _ (Ph.bt_lt s) HB.out k hk1 hk h]
        have BAD := Lib.hid bad
        clear bad
        by_cases hc1 : (s[k]'hks).toNat < 128
        · have hc1' : ((s[k]'hks).toNat : Int) < 128 := by omega
          go_wp2
          go_ret2
          exact ⟨ret_dec_err (BAD.out (.inl (by rw [HK.out]; exact hc1))), rfl⟩
        · have hc1' : (128 : Int) ≤ ((s[k]'hks).toNat : Int) := by omega
          by_cases hc2 : 191 < (s[k]'hks).toNat
          · have hc2' : (191 : Int) < ((s[k]'hks).toNat : Int) := by omega
            go_wp2
            go_ret2
            exact ⟨ret_dec_err (BAD.out (.inr (by rw [HK.out]; exact hc2))), rfl⟩
          · have hc2' : ((s[k]'hks).toNat : Int) ≤ 191 := by omega
            have HS : Hid (Ph.Rk ((Ph.bt s 0 : Int) - 224) (Ph.bt s) (k + 1) = Ph.Rk ((Ph.bt s 0 : Int) - 224) (Ph.bt s) k * 64 + ((s[k]'hks).toNat : Int) - 128) := by
              show _ = _
              rw [Ph.Rk_succ _ _ _ hk1, HK.out]
            go_wp2
            go_round
            case rel =>
              refine ⟨k + 1, by omega, by omega, by go_num, by rw [HS.out], fun j h1 h2 => ?_⟩
              by_cases hj : j < k
              · exact HJ.out j h1 hj
              · obtain rfl : j = k := by omega
                rw [HK.out]; omega
            case measure => simp [intOf]; omega
      · obtain rfl : k = 3 := by omega
        have hk' : ¬ ((3 : Nat) : Int) < 3 := by omega
        have bad := fun h => Ph.d3e s.size (Ph.bt s) HB.out (by omega) HJ.out h
        have good := fun h => Ph.d3o s.size (Ph.bt s) HB.out (by omega) HJ.out h
        rw [← HD.out] at bad good
        have BAD := Lib.hid bad
        have GOOD := Lib.hid good
        clear bad good
        generalize Ph.Rk ((Ph.bt s 0 : Int) - 224) (Ph.bt s) 3 = R at *
        go_wp2
        all_goals
          go_ret2
          refine ⟨?_, rfl⟩
          first
            | exact ret_dec_err (BAD.out (by omega))
            | (have G := GOOD.out (by omega); exact ret_dec G.1.symm (by rw [G.2.1]; rfl))
            | (exfalso; have G := GOOD.out (by omega); omega)
set_option maxRecDepth 100000 in
set_option maxHeartbeats 800000 in
theorem dec_4 (s : ByteArray) (w : World) (hs : s.size ≤ 9223372036854775807) (hp : 0 < s.size) (h0 : 240 ≤ (s[0]'hp).toNat) (h1 : (s[0]'hp).toNat < 248) :
    Calls Tryz.prog 130 #[.string s] w fun e w' => e = .returned (.tuple #[.int .i32 (Ph.decZ s.data.toList).1, .int .i64 (Ph.decZ s.data.toList).2]) ∧ w = w' := by
  have ex := Ph.empty_no hp
  have hd := Ph.decZ_bt s hp
  have h0' : (240 : Int) ≤ ((s[0]'hp).toNat : Int) := by omega
  have h1' : ((s[0]'hp).toNat : Int) < 248 := by omega
  have HB : Hid (240 ≤ Ph.bt s 0 ∧ Ph.bt s 0 < 248) := by rw [Ph.bt_at s 0 hp]; exact ⟨h0, h1⟩
  have HZ : Hid (((s[0]'hp).toNat : Int) = Ph.bt s 0) := by show _ = _; rw [Ph.bt_at s 0 hp]
  by_cases hn : s.size < 4
  · have HD : Hid (Ph.decZ s.data.toList = (65533, 1)) := by
      show _ = _
      rw [hd, Ph.d4s _ _ _ _ _ HB.out hn]
    have hn' : (s.size : Int) < 4 := by omega
    clear hd
    go_enter Tryz.func130, Tryz.ntmps130
    go_wp2
    go_ret2
    exact ⟨ret_dec_err HD.out, rfl⟩
  · have hn' : (4 : Int) ≤ (s.size : Int) := by omega
    have HD := Lib.hid hd
    clear hd
    go_enter Tryz.func130, Tryz.ntmps130
    go_wp2
    go_loop [7, 8] (fun r i => ∃ k : Nat, 1 ≤ k ∧ k ≤ 4 ∧ i = .int .i64 k ∧ r = .int .i32 (Ph.Rk ((Ph.bt s 0 : Int) - 240) (Ph.bt s) k) ∧ Hid (∀ j, 1 ≤ j → j < k → 128 ≤ Ph.bt s j ∧ Ph.bt s j ≤ 191)) (fun _ i => 4 - (intOf i).toNat)
    case atStart => exact ⟨1, by omega, by omega, rfl, by rw [HZ.out]; rfl, fun j h1 h2 => by omega⟩
    case round =>
      obtain ⟨k, hk1, hk2, rfl, rfl, HJ⟩ := hrel
      have hR := Ph.Rk_bd ((Ph.bt s 0 : Int) - 240) (Ph.bt s) (by have := HB.out; omega) (by have := HB.out; omega) k (by omega) HJ.out
      obtain ⟨hR0, hR1⟩ := hR
      by_cases hk : k < 4
      · have hks : k < s.size := by omega
        have hbk := Ph.bt_at s k hks
        have hk' : (k : Int) < 4 := by omega
        have hbl := (s[k]'hks).toNat_lt
        have HK : Hid (Ph.bt s k = (s[k]'hks).toNat) := hbk
        clear hbk
        have bad : Ph.bt s k < 128 ∨ 191 < Ph.bt s k → Ph.decZ s.data.toList = (65533, 1) := fun h => by rw [HD.out, Ph.d4b _ _ (Ph.bt_lt s) HB.out k hk1 hk h]
        have BAD := Lib.hid bad
        clear bad
        by_cases hc1 : (s[k]'hks).toNat < 128
        · have hc1' : ((s[k]'hks).toNat : Int) < 128 := by omega
          go_wp2
          go_ret2
          exact ⟨ret_dec_err (BAD.out (.inl (by rw [HK.out]; exact hc1))), rfl⟩
        · have hc1' : (128 : Int) ≤ ((s[k]'hks).toNat : Int) := by omega
          by_cases hc2 : 191 < (s[k]'hks).toNat
          · have hc2' : (191 : Int) < ((s[k]'hks).toNat : Int) := by omega
            go_wp2
            go_ret2
            exact ⟨ret_dec_err (BAD.out (.inr (by rw [HK.out]; exact hc2))), rfl⟩
          · have hc2' : ((s[k]'hks).toNat : Int) ≤ 191 := by omega
            have HS : Hid (Ph.Rk ((Ph.bt s 0 : Int) - 240) (Ph.bt s) (k + 1) = Ph.Rk ((Ph.bt s 0 : Int) - 240) (Ph.bt s) k * 64 + ((s[k]'hks).toNat : Int) - 128) := by
              show _ = _
              rw [Ph.Rk_succ _ _ _ hk1, HK.out]
            go_wp2
            go_round
            case rel =>
              refine ⟨k + 1, by omega, by omega, by go_num, by rw [HS.out], fun j h1 h2 => ?_⟩
              by_cases hj : j < k
              · exact HJ.out j h1 hj
              · obtain rfl : j = k := by omega
                rw [HK.out]; omega
            case measure => simp [intOf]; omega
      · obtain rfl : k = 4 := by omega
        have hk' : ¬ ((4 : Nat) : Int) < 4 := by omega
        have bad := fun h => Ph.d4e s.size (Ph.bt s) HB.out (by omega) HJ.out h
        have good := fun h => Ph.d4o s.size (Ph.bt s) HB.out (by omega) HJ.out h
        rw [← HD.out] at bad good
        have BAD := Lib.hid bad
        have GOOD := Lib.hid good
        clear bad good
        generalize Ph.Rk ((Ph.bt s 0 : Int) - 240) (Ph.bt s) 4 = R at *
        go_wp2
        all_goals
          go_ret2
          refine ⟨?_, rfl⟩
          first
            | exact ret_dec_err (BAD.out (by omega))
            | (have G := GOOD.out (by omega); exact ret_dec G.1.symm (by rw [G.2]; rfl))
            | (exfalso; have G := GOOD.out (by omega); omega)
theorem ref_Decode (s : ByteArray) (w : World) (hs : s.size ≤ 9223372036854775807) :
    Calls Tryz.prog 130 #[.string s] w fun e w' => e = .returned (.tuple #[.int .i32 (Ph.decZ s.data.toList).1, .int .i64 (Ph.decZ s.data.toList).2]) ∧ w = w' := by
  by_cases hp : 0 < s.size
  · have hl := (s[0]'hp).toNat_lt
    by_cases h1 : (s[0]'hp).toNat < 128
    · exact dec_ascii s w hp h1
    · by_cases h2 : (s[0]'hp).toNat < 192
      · exact dec_none s w hp (.inl ⟨by omega, h2⟩)
      · by_cases h3 : (s[0]'hp).toNat < 224
        · exact dec_2 s w hs hp (by omega) h3
        · by_cases h4 : (s[0]'hp).toNat < 240
          · exact dec_3 s w hs hp (by omega) h4
          · by_cases h5 : (s[0]'hp).toNat < 248
            · exact dec_4 s w hs hp (by omega) h5
            · exact dec_none s w hp (.inr (by omega))
  · exact dec_short s w hp
end Go.Proofs.YtmalklakaalaoaaGreatDoor

set_option linter.unusedVariables false
namespace Go.Proofs.YtmalklakaalaoaaGreatDoor
open Go.RowKit
section
variable {P : Program} {w w' : World} {base e : Nat} {v : Value} {l : List UInt8}
theorem byteCells_app (a b : List UInt8) : Lib.byteCells (a ++ b) = Lib.byteCells a ++ Lib.byteCells b := by simp [Lib.byteCells]
theorem own_below {size n : Nat} {xs : List Value} (h : w.ownsRow base e size v n xs) (hb : Below w.heap.size w w') : w'.ownsRow base e size v n xs := by
  refine ⟨h.1, ?_⟩
  rcases h.2 with hn | ⟨g, cap, cur, rfl, hg, hh, rest⟩
  · exact .inl hn
  · exact .inr ⟨g, cap, cur, rfl, hg, (hb.block g (Array.getElem?_eq_some_iff.1 hh).1).trans hh, rest⟩
theorem own_slice {size n : Nat} {xs : List Value} (h : w.ownsRow base e size v n xs) : ∃ A c, v = .slice A n c ∧ n ≤ c ∧ c ≤ maxLen ∧ (0 < n → ∃ g, A = some ⟨g, 0, none⟩ ∧ ∀ j, j < n * size → w.cell? ⟨g, j, none⟩ = xs[j]?) := by
  rcases h.2 with ⟨rfl, rfl⟩ | ⟨g, cap, cur, rfl, hg, hh, hnc, hm, hsz, hx⟩
  · exact ⟨none, 0, rfl, by omega, by omega, fun h => by omega⟩
  · exact ⟨_, cap, rfl, hnc, hm, fun _ => ⟨g, rfl, fun j hj => h.cellAt j hj⟩⟩
theorem own_snoc {z : Int} {c : UInt8} (h : w.ownsRow base e 1 v (l.length + 1) (Lib.byteCells l ++ [.int .u8 z])) (hz : z = (c.toNat : Int)) : w.ownsRow base e 1 v (l ++ [c]).length (Lib.byteCells (l ++ [c])) := by
  subst hz
  rw [byteCells_app, List.length_append]
  exact h
end
end Go.Proofs.YtmalklakaalaoaaGreatDoor

set_option linter.unusedVariables false
namespace Ph
open Go Go.Lib
def offsFrom : Nat → List (Nat × Nat) → List Nat
  | _, [] => []
  | a, q :: p => a :: offsFrom (a + q.2) p
def offs (p : List (Nat × Nat)) : List Nat := offsFrom 0 p
theorem offsFrom_snoc : ∀ (p : List (Nat × Nat)) (a : Nat) (q : Nat × Nat), offsFrom a (p ++ [q]) = offsFrom a p ++ [a + wid p]
  | [], a, q => by simp [offsFrom, wid_nil]
  | x :: p, a, q => by
    simp only [List.cons_append, offsFrom, offsFrom_snoc p, wid_cons]
    simp; omega
theorem offs_snoc (p : List (Nat × Nat)) (q : Nat × Nat) : offs (p ++ [q]) = offs p ++ [wid p] := by
  unfold offs; rw [offsFrom_snoc]; simp
def goodB (p : List (Nat × Nat)) : Bool := p.all fun q => !(q.1 == 65533) || q.2 == 3
theorem goodB_snoc (p : List (Nat × Nat)) (q : Nat × Nat) : goodB (p ++ [q]) = (goodB p && (!(q.1 == 65533) || q.2 == 3)) := by simp [goodB]
theorem good_a {g : Bool} {d : Nat × Nat} (hg : g = true) (h : (d.1 : Int) = 65533) : ((d.2 : Int) == 3) = (g && (!(d.1 == 65533) || d.2 == 3)) := by
  have h1 : d.1 = 65533 := by omega
  have e : ((d.2 : Int) == 3) = (d.2 == 3) := by
    rw [Bool.eq_iff_iff, beq_iff_eq, beq_iff_eq]
    omega
  rw [e]
  simp [hg, h1]
theorem good_b {g : Bool} {d : Nat × Nat} (hg : g = true) (h : ¬ (d.1 : Int) = 65533) : true = (g && (!(d.1 == 65533) || d.2 == 3)) := by
  have h1 : ¬ d.1 = 65533 := by omega
  simp [hg, h1]
theorem good_c {g : Bool} {d : Nat × Nat} (hg : ¬ g = true) : false = (g && (!(d.1 == 65533) || d.2 == 3)) := by
  simp at hg; simp [hg]
theorem err_width (l : List UInt8) (h : (decodeL l).1 = 65533) : (decodeL l).2 = 1 ∨ (decodeL l).2 = 3 := by
  rw [decodeL_N] at h ⊢
  have h1 := (l.getD 1 0).toNat_lt
  rcases decodeN_shape l.length (l.getD 0 0).toNat (l.getD 1 0).toNat (l.getD 2 0).toNat (l.getD 3 0).toNat with ⟨c, e⟩ | ⟨c1, c2, c3, cv, e⟩ | ⟨c1, c2, c3, c4, cv, cs, e⟩ | ⟨c1, c2, c3, c4, c5, cv, cw, e⟩ | e
  all_goals (rw [e] at h ⊢; simp only at h ⊢)
  · omega
  · omega
  · exact .inr trivial
  · omega
  · exact .inl trivial
theorem goodB_rs : ∀ l : List UInt8, goodB (rs l) = validD l :=
  rs_induct rfl (fun l he ih => by
    rw [rs_step l he, validD_step l he, goodB, List.all_cons]
    show (_ && goodB (rs (l.drop (decodeL l).2))) = _
    rw [ih]
    by_cases h : (decodeL l).1 = 65533
    · rcases err_width l h with h2 | h2
      · simp [h, h2]
      · simp [h, h2]
    · simp [h])
theorem decZ_extract (s : ByteArray) (pos : Nat) (h : pos < s.size) : decZ (s.extract pos s.size).data.toList = Utf8.decode s pos := by
  have hs : (s.extract pos s.size).size = s.size - pos := by simp
  rw [(decZ_ne (s := s.extract pos s.size) (by omega)).1, extract_drop, decodeL_drop]
def runeVals (p : List (Nat × Nat)) : List Value := p.map fun q => Value.int .i32 q.1
def intVals (l : List Nat) : List Value := l.map fun (n : Nat) => Value.int .i64 (n : Int)
theorem runeVals_snoc (p : List (Nat × Nat)) (q : Nat × Nat) : runeVals (p ++ [q]) = runeVals p ++ [.int .i32 q.1] := by simp [runeVals]
theorem intVals_snoc (p : List Nat) (q : Nat) : intVals (p ++ [q]) = intVals p ++ [.int .i64 q] := by simp [intVals]
theorem runeVals_get (p : List (Nat × Nat)) (k : Nat) (h : k < p.length) : (runeVals p)[k]? = some (.int .i32 (p[k]'h).1) := by simp [runeVals, h]
end Ph

set_option linter.unusedVariables false
set_option maxRecDepth 10000
namespace Go.Proofs.YtmalklakaalaoaaGreatDoor
open Go.RowKit
-- pieces
theorem info_rune : (Tryz.prog.info? 21).map (fun i => (i.zero, i.size, i.bytes)) = some (some (.int .i32 0), 1, 4) := by kernel_rfl
theorem info_int : (Tryz.prog.info? 3).map (fun i => (i.zero, i.size, i.bytes)) = some (some (.int .i64 0), 1, 8) := by kernel_rfl
theorem own_ne {w : World} {b b' e e' size size' n n' : Nat} {v v' : Value} {xs xs' : List Value} (h : w.ownsRow b e size v n xs) (h' : w.ownsRow b' e' size' v' n' xs') (hne : e ≠ e') : v.ownBlock = none ∨ v.ownBlock ≠ v'.ownBlock := by
  rcases h.2 with ⟨rfl, _⟩ | ⟨g, cap, cur, rfl, _, hh, _⟩
  · left; rfl
  · right
    rcases h'.2 with ⟨rfl, _⟩ | ⟨g', cap', cur', rfl, _, hh', _⟩
    · simp [Value.ownBlock]
    · simp only [Value.ownBlock, ne_eq, Option.some.injEq]
      rintro rfl
      rw [hh] at hh'
      injection hh' with hh'
      injection hh' with _ ht
      exact hne ht
set_option maxHeartbeats 800000 in
theorem ref_Runes (s : ByteArray) (w : World) (hs : s.size ≤ 1000000) :
    Calls Tryz.prog 124 #[.string s] w fun e w' => ∃ vl va, e = .returned (.tuple #[vl, va, .bool (Lib.validD s.data.toList)]) ∧
      w'.ownsRow w.heap.size 21 1 vl (Ph.rs s.data.toList).length (Ph.runeVals (Ph.rs s.data.toList)) ∧ w'.ownsRow w.heap.size 3 1 va (Ph.rs s.data.toList).length (Ph.intVals (Ph.offs (Ph.rs s.data.toList))) ∧ Below w.heap.size w w' := by
  have hcl := Ph.count_le s
  obtain ⟨ir, hir, hrz, hrs, hrb⟩ := info_parts info_rune
  obtain ⟨ii, hii, hiz, his, hib⟩ := info_parts info_int
  go_enter Tryz.func124, Tryz.ntmps124
  go_wp2
  go_loopw [5, 6, 7, 8] (fun l at_ good i wr => ∃ pos k : Nat, i = .int .i64 pos ∧ pos ≤ s.size ∧ k ≤ s.size ∧ good = .bool (Ph.goodB ((Ph.rs s.data.toList).take k)) ∧
      wr.ownsRow w.heap.size 21 1 l k (Ph.runeVals ((Ph.rs s.data.toList).take k)) ∧ wr.ownsRow w.heap.size 3 1 at_ k (Ph.intVals (Ph.offs ((Ph.rs s.data.toList).take k))) ∧
      Below w.heap.size w wr ∧ Hid (Ph.rs (s.data.toList.drop pos) = (Ph.rs s.data.toList).drop k) ∧ Hid (pos = Ph.wid ((Ph.rs s.data.toList).take k))) (fun _ _ _ i _ => s.size - (intOf i).toNat)
  case atStart =>
    exact ⟨0, 0, rfl, by omega, by omega, rfl, World.ownsRow_nil _ _ _ _, World.ownsRow_nil _ _ _ _, Below.refl _ _, by unfold Hid; simp, by unfold Hid; simp [Ph.wid_nil]⟩
  case round =>
    obtain ⟨pos, k, rfl, hpos, hk, rfl, hl, ha, hbw, HK, HP⟩ := hrel
    by_cases hp : pos < s.size
    · have hp' : (pos : Int) < (s.size : Int) := by omega
      have hst := Ph.step_take (HK.out.symm.trans (Ph.rs_at s pos hp))
      have hk1 : k + 1 ≤ s.size := by have := hst.1; unfold Ph.count at hcl; omega
      have HS : Hid ((Ph.rs s.data.toList).take (k + 1) = (Ph.rs s.data.toList).take k ++ [Utf8.decode s pos] ∧ (Ph.rs s.data.toList).drop (k + 1) = Ph.rs (s.data.toList.drop (pos + (Utf8.decode s pos).2))) := hst.2
      clear hst
      have hw1 := Ph.width_pos s pos
      have hw2 := Ph.width_le s pos hp
      go_wp2_with fail
      refine (ref_Decode (s.extract pos s.size) _ (by simp; omega)).mono ?_
      rintro e w' ⟨rfl, rfl⟩
      rw [Ph.decZ_extract s pos hp]
      generalize hd : Utf8.decode s pos = d at *
      have HD := Lib.hid hd
      clear hd
      go_wp2_with (at_builtin; refine wpList_append_own _ rfl (.tmp 22) (.tmp 24) 194 rfl w.heap.size 21 ir (.int .i32 0) 1 4 Tryz.underlying194 hir hrz hrs hrb rfl (by decide) _ k _ rfl (hl.alloc _) ⟨wr.heap.size, 0, none⟩ 1 1 [.int .i32 (d.1 : Int)] rfl rfl ?c1 ?c2 ?c3 ?c4 ?c5 ?_)
      case c1 => exact (cell_one_new _ _ _)
      case c2 => simp [Value.oneCell']
      case c3 => unfold maxLen; omega
      case c4 => omega
      case c5 => have := hbw.size; simp; omega
      intro l1 w1 hl1 hg1 _
      have hb1 : Below w.heap.size w w1 := (hbw.alloc hbw.size _).grown hg1 (by have := hbw.size; simp; omega) (fun g hg => (hl.lt g hg).1)
      have ha1 : w1.ownsRow w.heap.size 3 1 u6 k (Ph.intVals (Ph.offs ((Ph.rs s.data.toList).take k))) := (ha.alloc _).kept hg1 (own_ne ha hl (by decide))
      go_wp2_with (at_builtin; refine wpList_append_own _ rfl (.tmp 26) (.tmp 28) 23 rfl w.heap.size 3 ii (.int .i64 0) 1 8 Tryz.underlying23 hii hiz his hib rfl (by decide) _ k _ rfl (ha1.alloc _) ⟨w1.heap.size, 0, none⟩ 1 1 [.int .i64 (pos : Int)] rfl rfl ?d1 ?d2 ?d3 ?d4 ?d5 ?_)
      case d1 => exact (cell_one_new _ _ _)
      case d2 => simp [Value.oneCell']
      case d3 => unfold maxLen; omega
      case d4 => omega
      case d5 => have := hb1.size; simp; omega
      intro a1 w2 ha2 hg2 _
      have hb2 : Below w.heap.size w w2 := (hb1.alloc hb1.size _).grown hg2 (by have := hb1.size; simp; omega) (fun g hg => (ha1.lt g hg).1)
      have hl2 : w2.ownsRow w.heap.size 21 1 l1 (k + 1) (Ph.runeVals ((Ph.rs s.data.toList).take k) ++ [.int .i32 (d.1 : Int)]) := (hl1.alloc _).kept hg2 (own_ne hl1 ha1 (by decide))
      rw [← Ph.runeVals_snoc] at hl2
      have hl3 : w2.ownsRow w.heap.size 21 1 l1 (k + 1) (Ph.runeVals ((Ph.rs s.data.toList).take (k + 1))) := by rw [HS.out.1]; exact hl2
      have ha3 : w2.ownsRow w.heap.size 3 1 a1 (k + 1) (Ph.intVals (Ph.offs ((Ph.rs s.data.toList).take (k + 1)))) := by
        rw [HS.out.1, Ph.offs_snoc, Ph.intVals_snoc, ← HP.out]
        exact ha2
      have HP2 : Hid (pos + d.2 = Ph.wid ((Ph.rs s.data.toList).take (k + 1))) := by
        show _ = _
        rw [HS.out.1, Ph.wid_append, ← HP.out]
        simp [Ph.wid_cons, Ph.wid_nil]
      clear hl ha hl1 ha1 hl2 ha2 hg1 hg2 hb1 hbw
      go_wp2
      all_goals
        go_roundw
        case rel =>
          refine ⟨pos + d.2, k + 1, by go_num, by omega, by omega, ?_, hl3, ha3, hb2, HS.out.2.symm, HP2⟩
          rw [HS.out.1, Ph.goodB_snoc]
          first | exact congrArg Value.bool (Ph.good_a ‹_› ‹_›) | exact congrArg Value.bool (Ph.good_b ‹_› ‹_›) | exact congrArg Value.bool (Ph.good_c ‹_›)
        case measure => simp [intOf]; omega
    · have hp' : (s.size : Int) ≤ (pos : Int) := by omega
      have hle := Ph.drop_nil_le (HK.out.symm.trans (Ph.rs_end s pos hp))
      have hk2 := hl.1
      rw [Ph.runeVals, List.length_map, List.length_take] at hk2
      obtain rfl : k = (Ph.rs s.data.toList).length := by omega
      have e := List.take_of_length_le (l := Ph.rs s.data.toList) (Nat.le_refl _)
      rw [e] at hl ha
      have HG : Hid (Ph.goodB ((Ph.rs s.data.toList).take (Ph.rs s.data.toList).length) = Lib.validD s.data.toList) := by
        show _ = _
        rw [e, Ph.goodB_rs]
      clear e hk2
      go_wp2
      go_ret3
      refine ⟨_, _, ?_, hl, ha, hbw⟩
      rw [← HG.out]
      rfl
end Go.Proofs.YtmalklakaalaoaaGreatDoor

namespace Go.Proofs.YtmalklakaalaoaaGreatDoor
open Go.Sx
instance ty2 : Ty Tryz.prog 2 false [Value.int .i64 0] := .mk' (v := Value.int .i64 0) (k := 1) (by kernel_rfl) (by kernel_rfl) rfl rfl
instance ty3 : Ty Tryz.prog 3 false [Value.int .i64 0] := .mk' (v := Value.int .i64 0) (k := 1) (by kernel_rfl) (by kernel_rfl) rfl rfl
instance ty4 : Ty Tryz.prog 4 false [Value.bool false] := .mk' (v := Value.bool false) (k := 1) (by kernel_rfl) (by kernel_rfl) rfl rfl
instance ty5 : Ty Tryz.prog 5 false [Value.int .u8 0] := .mk' (v := Value.int .u8 0) (k := 1) (by kernel_rfl) (by kernel_rfl) rfl rfl
instance ty9 : Ty Tryz.prog 9 false [Value.string ⟨#[]⟩] := .mk' (v := Value.string ⟨#[]⟩) (k := 1) (by kernel_rfl) (by kernel_rfl) rfl rfl
instance ty25 : Ty Tryz.prog 25 false [Value.slice none 0 0] := .mk' (v := Value.slice none 0 0) (k := 1) (by kernel_rfl) (by kernel_rfl) rfl rfl
instance ty30 : Ty Tryz.prog 30 false [Value.slice none 0 0] := .mk' (v := Value.slice none 0 0) (k := 1) (by kernel_rfl) (by kernel_rfl) rfl rfl
instance ty32 : Ty Tryz.prog 32 true [Value.slice none 0 0] := .mk' (v := .agg #[Value.slice none 0 0]) (k := 1) (by kernel_rfl) (by kernel_rfl) rfl rfl
instance ty34 : Ty Tryz.prog 34 false [Value.slice none 0 0] := .mk' (v := Value.slice none 0 0) (k := 1) (by kernel_rfl) (by kernel_rfl) rfl rfl
instance ty36 : Ty Tryz.prog 36 true [Value.int .i64 0, Value.int .i64 0, Value.slice none 0 0] := .mk' (v := .agg #[Value.int .i64 0, Value.int .i64 0, Value.slice none 0 0]) (k := 3) (by kernel_rfl) (by kernel_rfl) rfl rfl
instance ty37 : Ty Tryz.prog 37 false [Value.int .i64 0] := .mk' (v := Value.int .i64 0) (k := 1) (by kernel_rfl) (by kernel_rfl) rfl rfl
instance ty39 : Ty Tryz.prog 39 true [Value.int .i64 0, Value.int .i64 0, Value.int .i64 0, Value.slice none 0 0, Value.int .i64 0] := .mk' (v := .agg #[Value.int .i64 0, Value.int .i64 0, Value.int .i64 0, Value.slice none 0 0, Value.int .i64 0]) (k := 5) (by kernel_rfl) (by kernel_rfl) rfl rfl
instance ty42 : Ty Tryz.prog 42 true [Value.int .i64 0, Value.slice none 0 0, Value.int .i64 0, Value.int .i64 0, Value.int .i64 0, Value.int .i64 0, Value.int .i64 0, Value.int .i64 0, Value.int .i64 0, Value.int .i64 0, Value.int .i64 0, Value.slice none 0 0, Value.int .i64 0, Value.int .i64 0, Value.int .i64 0, Value.int .i64 0, Value.slice none 0 0, Value.int .i64 0, Value.int .i64 0, Value.int .i64 0, Value.int .i64 0, Value.slice none 0 0, Value.int .i64 0, Value.int .i64 0, Value.int .i64 0, Value.int .i64 0, Value.slice none 0 0, Value.int .i64 0, Value.int .i64 0, Value.int .i64 0, Value.int .i64 0, Value.slice none 0 0, Value.int .i64 0, Value.int .i64 0, Value.int .i64 0, Value.int .i64 0, Value.slice none 0 0, Value.int .i64 0] := .mk' (v := .agg #[Value.int .i64 0, Value.slice none 0 0, Value.int .i64 0, Value.int .i64 0, Value.int .i64 0, Value.int .i64 0, Value.int .i64 0, Value.int .i64 0, Value.int .i64 0, Value.int .i64 0, Value.int .i64 0, Value.slice none 0 0, Value.int .i64 0, Value.int .i64 0, Value.int .i64 0, Value.int .i64 0, Value.slice none 0 0, Value.int .i64 0, Value.int .i64 0, Value.int .i64 0, Value.int .i64 0, Value.slice none 0 0, Value.int .i64 0, Value.int .i64 0, Value.int .i64 0, Value.int .i64 0, Value.slice none 0 0, Value.int .i64 0, Value.int .i64 0, Value.int .i64 0, Value.int .i64 0, Value.slice none 0 0, Value.int .i64 0, Value.int .i64 0, Value.int .i64 0, Value.int .i64 0, Value.slice none 0 0, Value.int .i64 0]) (k := 38) (by kernel_rfl) (by kernel_rfl) rfl rfl
instance ty51 : Ty Tryz.prog 51 false [Value.pointer none] := .mk' (v := Value.pointer none) (k := 1) (by kernel_rfl) (by kernel_rfl) rfl rfl
instance ty59 : Ty Tryz.prog 59 true [Value.int .i64 0, Value.int .i64 0, Value.int .i64 0, Value.slice none 0 0, Value.string ⟨#[]⟩, Value.int .i64 0] := .mk' (v := .agg #[Value.int .i64 0, Value.int .i64 0, Value.int .i64 0, Value.slice none 0 0, Value.string ⟨#[]⟩, Value.int .i64 0]) (k := 6) (by kernel_rfl) (by kernel_rfl) rfl rfl
instance ty61 : Ty Tryz.prog 61 false [Value.slice none 0 0] := .mk' (v := Value.slice none 0 0) (k := 1) (by kernel_rfl) (by kernel_rfl) rfl rfl
instance ty64 : Ty Tryz.prog 64 true [Value.int .i64 0, Value.int .i64 0, Value.int .i64 0, Value.string ⟨#[]⟩] := .mk' (v := .agg #[Value.int .i64 0, Value.int .i64 0, Value.int .i64 0, Value.string ⟨#[]⟩]) (k := 4) (by kernel_rfl) (by kernel_rfl) rfl rfl
instance ty88 : Ty Tryz.prog 88 false [Value.pointer none] := .mk' (v := Value.pointer none) (k := 1) (by kernel_rfl) (by kernel_rfl) rfl rfl
instance ty93 : Ty Tryz.prog 93 true [Value.int .i64 0, Value.int .i64 0, Value.string ⟨#[]⟩] := .mk' (v := .agg #[Value.int .i64 0, Value.int .i64 0, Value.string ⟨#[]⟩]) (k := 3) (by kernel_rfl) (by kernel_rfl) rfl rfl
instance ty95 : Ty Tryz.prog 95 true [Value.int .i64 0, Value.string ⟨#[]⟩, Value.int .i64 0, Value.int .i64 0, Value.string ⟨#[]⟩, Value.int .i64 0, Value.int .i64 0, Value.string ⟨#[]⟩, Value.int .i64 0] := .mk' (v := .agg #[Value.int .i64 0, Value.string ⟨#[]⟩, Value.int .i64 0, Value.int .i64 0, Value.string ⟨#[]⟩, Value.int .i64 0, Value.int .i64 0, Value.string ⟨#[]⟩, Value.int .i64 0]) (k := 9) (by kernel_rfl) (by kernel_rfl) rfl rfl
instance ty105 : Ty Tryz.prog 105 true [Value.int .i64 0, Value.pointer none, Value.slice none 0 0] := .mk' (v := .agg #[Value.int .i64 0, Value.pointer none, Value.slice none 0 0]) (k := 3) (by kernel_rfl) (by kernel_rfl) rfl rfl
instance ty123 : Ty Tryz.prog 123 true [Value.int .i64 0, Value.int .i64 0, Value.int .i64 0, Value.int .i64 0, Value.slice none 0 0, Value.int .i64 0] := .mk' (v := .agg #[Value.int .i64 0, Value.int .i64 0, Value.int .i64 0, Value.int .i64 0, Value.slice none 0 0, Value.int .i64 0]) (k := 6) (by kernel_rfl) (by kernel_rfl) rfl rfl
instance ty126 : Ty Tryz.prog 126 true [Value.int .i64 0, Value.pointer none, Value.int .i64 0, Value.int .i64 0, Value.int .i64 0, Value.int .i64 0, Value.slice none 0 0, Value.int .i64 0, Value.int .i64 0, Value.int .i64 0, Value.int .i64 0, Value.int .i64 0, Value.slice none 0 0, Value.int .i64 0, Value.int .i64 0, Value.int .i64 0, Value.int .i64 0, Value.int .i64 0, Value.slice none 0 0, Value.int .i64 0, Value.int .i64 0, Value.int .i64 0, Value.int .i64 0, Value.int .i64 0, Value.slice none 0 0, Value.int .i64 0, Value.int .i64 0, Value.int .i64 0, Value.int .i64 0, Value.int .i64 0, Value.slice none 0 0, Value.int .i64 0, Value.int .i64 0, Value.int .i64 0, Value.int .i64 0, Value.int .i64 0, Value.slice none 0 0, Value.int .i64 0] := .mk' (v := .agg #[Value.int .i64 0, Value.pointer none, Value.int .i64 0, Value.int .i64 0, Value.int .i64 0, Value.int .i64 0, Value.slice none 0 0, Value.int .i64 0, Value.int .i64 0, Value.int .i64 0, Value.int .i64 0, Value.int .i64 0, Value.slice none 0 0, Value.int .i64 0, Value.int .i64 0, Value.int .i64 0, Value.int .i64 0, Value.int .i64 0, Value.slice none 0 0, Value.int .i64 0, Value.int .i64 0, Value.int .i64 0, Value.int .i64 0, Value.int .i64 0, Value.slice none 0 0, Value.int .i64 0, Value.int .i64 0, Value.int .i64 0, Value.int .i64 0, Value.int .i64 0, Value.slice none 0 0, Value.int .i64 0, Value.int .i64 0, Value.int .i64 0, Value.int .i64 0, Value.int .i64 0, Value.slice none 0 0, Value.int .i64 0]) (k := 38) (by kernel_rfl) (by kernel_rfl) rfl rfl
instance ty139 : Ty Tryz.prog 139 false [Value.map none] := .mk' (v := Value.map none) (k := 1) (by kernel_rfl) (by kernel_rfl) rfl rfl
instance ty141 : Ty Tryz.prog 141 true [Value.map none] := .mk' (v := .agg #[Value.map none]) (k := 1) (by kernel_rfl) (by kernel_rfl) rfl rfl
instance ty147 : Ty Tryz.prog 147 true [Value.string ⟨#[]⟩, Value.int .i64 0, Value.int .i64 0, Value.string ⟨#[]⟩] := .mk' (v := .agg #[Value.string ⟨#[]⟩, Value.int .i64 0, Value.int .i64 0, Value.string ⟨#[]⟩]) (k := 4) (by kernel_rfl) (by kernel_rfl) rfl rfl
instance ty152 : Ty Tryz.prog 152 true [Value.slice none 0 0, Value.bool false] := .mk' (v := .agg #[Value.slice none 0 0, Value.bool false]) (k := 2) (by kernel_rfl) (by kernel_rfl) rfl rfl
instance ty165 : Ty Tryz.prog 165 true [Value.nilIface] := .mk' (v := .agg #[Value.nilIface]) (k := 1) (by kernel_rfl) (by kernel_rfl) rfl rfl
instance it2 : IntTy Tryz.prog 2 .i64 := ⟨by kernel_rfl⟩
instance it3 : IntTy Tryz.prog 3 .i64 := ⟨by kernel_rfl⟩
instance it5 : IntTy Tryz.prog 5 .u8 := ⟨by kernel_rfl⟩
instance el5 : El Tryz.prog 5 1 1 := .mk' (z := Value.int .u8 0) (by kernel_rfl) rfl
instance st9 : StrTy Tryz.prog 9 := ⟨by kernel_rfl⟩
instance sl22 : Sl Tryz.prog 22 36 := ⟨by kernel_rfl⟩
instance sl25 : Sl Tryz.prog 25 39 := ⟨by kernel_rfl⟩
instance sl30 : Sl Tryz.prog 30 147 := ⟨by kernel_rfl⟩
instance fl32_0 : Fld Tryz.prog 32 0 0 30 := .mk' (by kernel_rfl) (by kernel_rfl)
instance su32 : St Tryz.prog 32 [(0, 1)] := ⟨by kernel_rfl⟩
instance sl34 : Sl Tryz.prog 34 95 := ⟨by kernel_rfl⟩
instance el36 : El Tryz.prog 36 3 40 := .mk' (z := .agg #[Value.int .i64 0, Value.int .i64 0, Value.slice none 0 0]) (by kernel_rfl) rfl
instance fl36_0 : Fld Tryz.prog 36 0 0 3 := .mk' (by kernel_rfl) (by kernel_rfl)
instance fl36_1 : Fld Tryz.prog 36 1 1 2 := .mk' (by kernel_rfl) (by kernel_rfl)
instance fl36_2 : Fld Tryz.prog 36 2 2 34 := .mk' (by kernel_rfl) (by kernel_rfl)
instance su36 : St Tryz.prog 36 [(0, 1), (1, 1), (2, 1)] := ⟨by kernel_rfl⟩
instance el39 : El Tryz.prog 39 5 56 := .mk' (z := .agg #[Value.int .i64 0, Value.int .i64 0, Value.int .i64 0, Value.slice none 0 0, Value.int .i64 0]) (by kernel_rfl) rfl
instance fl39_0 : Fld Tryz.prog 39 0 0 2 := .mk' (by kernel_rfl) (by kernel_rfl)
instance fl39_1 : Fld Tryz.prog 39 1 1 36 := .mk' (by kernel_rfl) (by kernel_rfl)
instance fl39_2 : Fld Tryz.prog 39 2 4 37 := .mk' (by kernel_rfl) (by kernel_rfl)
instance su39 : St Tryz.prog 39 [(0, 1), (1, 3), (4, 1)] := ⟨by kernel_rfl⟩
instance fl42_0 : Fld Tryz.prog 42 0 0 2 := .mk' (by kernel_rfl) (by kernel_rfl)
instance fl42_1 : Fld Tryz.prog 42 1 1 32 := .mk' (by kernel_rfl) (by kernel_rfl)
instance fl42_2 : Fld Tryz.prog 42 2 2 33 := .mk' (by kernel_rfl) (by kernel_rfl)
instance fl42_3 : Fld Tryz.prog 42 3 8 40 := .mk' (by kernel_rfl) (by kernel_rfl)
instance su42 : St Tryz.prog 42 [(0, 1), (1, 1), (2, 6), (8, 30)] := ⟨by kernel_rfl⟩
instance sl54 : Sl Tryz.prog 54 59 := ⟨by kernel_rfl⟩
instance sl55 : Sl Tryz.prog 55 4 := ⟨by kernel_rfl⟩
instance fl59_0 : Fld Tryz.prog 59 0 0 3 := .mk' (by kernel_rfl) (by kernel_rfl)
instance fl59_1 : Fld Tryz.prog 59 1 1 36 := .mk' (by kernel_rfl) (by kernel_rfl)
instance fl59_2 : Fld Tryz.prog 59 2 4 9 := .mk' (by kernel_rfl) (by kernel_rfl)
instance fl59_3 : Fld Tryz.prog 59 3 5 2 := .mk' (by kernel_rfl) (by kernel_rfl)
instance sl61 : Sl Tryz.prog 61 5 := ⟨by kernel_rfl⟩
instance fl64_0 : Fld Tryz.prog 64 0 0 2 := .mk' (by kernel_rfl) (by kernel_rfl)
instance fl64_2 : Fld Tryz.prog 64 2 2 3 := .mk' (by kernel_rfl) (by kernel_rfl)
instance fl64_3 : Fld Tryz.prog 64 3 3 9 := .mk' (by kernel_rfl) (by kernel_rfl)
instance su64 : St Tryz.prog 64 [(0, 1), (1, 1), (2, 1), (3, 1)] := ⟨by kernel_rfl⟩
instance fl93_0 : Fld Tryz.prog 93 0 0 3 := .mk' (by kernel_rfl) (by kernel_rfl)
instance fl93_1 : Fld Tryz.prog 93 1 1 2 := .mk' (by kernel_rfl) (by kernel_rfl)
instance fl93_2 : Fld Tryz.prog 93 2 2 9 := .mk' (by kernel_rfl) (by kernel_rfl)
instance su93 : St Tryz.prog 93 [(0, 1), (1, 1), (2, 1)] := ⟨by kernel_rfl⟩
instance el95 : El Tryz.prog 95 9 96 := .mk' (z := .agg #[Value.int .i64 0, Value.string ⟨#[]⟩, Value.int .i64 0, Value.int .i64 0, Value.string ⟨#[]⟩, Value.int .i64 0, Value.int .i64 0, Value.string ⟨#[]⟩, Value.int .i64 0]) (by kernel_rfl) rfl
instance fl95_0 : Fld Tryz.prog 95 0 0 3 := .mk' (by kernel_rfl) (by kernel_rfl)
instance fl95_1 : Fld Tryz.prog 95 1 1 9 := .mk' (by kernel_rfl) (by kernel_rfl)
instance fl95_2 : Fld Tryz.prog 95 2 2 93 := .mk' (by kernel_rfl) (by kernel_rfl)
instance fl95_3 : Fld Tryz.prog 95 3 5 93 := .mk' (by kernel_rfl) (by kernel_rfl)
instance fl95_4 : Fld Tryz.prog 95 4 8 2 := .mk' (by kernel_rfl) (by kernel_rfl)
instance su95 : St Tryz.prog 95 [(0, 1), (1, 1), (2, 3), (5, 3), (8, 1)] := ⟨by kernel_rfl⟩
instance fl105_0 : Fld Tryz.prog 105 0 0 2 := .mk' (by kernel_rfl) (by kernel_rfl)
instance fl105_1 : Fld Tryz.prog 105 1 1 51 := .mk' (by kernel_rfl) (by kernel_rfl)
instance fl105_2 : Fld Tryz.prog 105 2 2 25 := .mk' (by kernel_rfl) (by kernel_rfl)
instance su105 : St Tryz.prog 105 [(0, 1), (1, 1), (2, 1)] := ⟨by kernel_rfl⟩
instance sl120 : Sl Tryz.prog 120 9 := ⟨by kernel_rfl⟩
instance fl123_0 : Fld Tryz.prog 123 0 0 2 := .mk' (by kernel_rfl) (by kernel_rfl)
instance fl123_1 : Fld Tryz.prog 123 1 1 39 := .mk' (by kernel_rfl) (by kernel_rfl)
instance su123 : St Tryz.prog 123 [(0, 1), (1, 5)] := ⟨by kernel_rfl⟩
instance fl126_0 : Fld Tryz.prog 126 0 0 2 := .mk' (by kernel_rfl) (by kernel_rfl)
instance fl126_1 : Fld Tryz.prog 126 1 1 88 := .mk' (by kernel_rfl) (by kernel_rfl)
instance fl126_2 : Fld Tryz.prog 126 2 2 124 := .mk' (by kernel_rfl) (by kernel_rfl)
instance su126 : St Tryz.prog 126 [(0, 1), (1, 1), (2, 36)] := ⟨by kernel_rfl⟩
instance sl132 : Sl Tryz.prog 132 2 := ⟨by kernel_rfl⟩
instance fl141_0 : Fld Tryz.prog 141 0 0 139 := .mk' (by kernel_rfl) (by kernel_rfl)
instance su141 : St Tryz.prog 141 [(0, 1)] := ⟨by kernel_rfl⟩
instance el147 : El Tryz.prog 147 4 48 := .mk' (z := .agg #[Value.string ⟨#[]⟩, Value.int .i64 0, Value.int .i64 0, Value.string ⟨#[]⟩]) (by kernel_rfl) rfl
instance fl147_0 : Fld Tryz.prog 147 0 0 9 := .mk' (by kernel_rfl) (by kernel_rfl)
instance fl147_1 : Fld Tryz.prog 147 1 1 93 := .mk' (by kernel_rfl) (by kernel_rfl)
instance su147 : St Tryz.prog 147 [(0, 1), (1, 3)] := ⟨by kernel_rfl⟩
instance fl152_0 : Fld Tryz.prog 152 0 0 61 := .mk' (by kernel_rfl) (by kernel_rfl)
instance fl152_1 : Fld Tryz.prog 152 1 1 4 := .mk' (by kernel_rfl) (by kernel_rfl)
instance su152 : St Tryz.prog 152 [(0, 1), (1, 1)] := ⟨by kernel_rfl⟩
instance it156 : IntTy Tryz.prog 156 .u64 := ⟨by kernel_rfl⟩
end Go.Proofs.YtmalklakaalaoaaGreatDoor

set_option linter.unusedVariables false
set_option maxRecDepth 10000
namespace Go.Proofs.YtmalklakaalaoaaGreatDoor.Sw
open Go.RowKit Go.Sx
-- pieces
theorem empty_eq (s : ByteArray) (h : s.size = 0) : (s.toList == (⟨#[]⟩ : ByteArray).toList) = true := by
  have : s = ⟨#[]⟩ := by
    apply ByteArray.ext
    exact Array.eq_empty_of_size_eq_zero h
  rw [this]; simp
theorem toList_size (s : ByteArray) : s.toList.length = s.size := by
  rw [Go.ByteArray.toList_eq]
  rw [Array.length_toList]; rfl
theorem empty_ne (s : ByteArray) (h : s.size ≠ 0) : (s.toList == (⟨#[]⟩ : ByteArray).toList) = false := by
  rw [beq_eq_false_iff_ne]
  intro e
  have := congrArg List.length e
  rw [toList_size, toList_size] at this
  exact h this
set_option maxHeartbeats 4000000 in
theorem ref_May (k n : Int) (s : ByteArray) (w : World) (hs0 : s.size ≤ 1000000) :
    Calls Tryz.prog 115 ⟨[.agg #[.int .i64 k, .int .i64 n, .string s]]⟩ w fun e w' => e = .returned (.bool ((ofRaw k n s).2 == 0)) ∧ Below w.heap.size w w' := by
  have hw := Has.start (G := 0) (w := w) (Nat.zero_le _)
  refine enter Tryz.func115 Tryz.ntmps115 rfl rfl fun a hs => ?_
  repeat (first | (refine sxv hs hw ?_; clear hs; intro a hs) | refine sxc hs ?_ | (refine sxa hs hw ?_; clear hs hw; intro a b W hw hs) | (refine sxs hs hw ?_; clear hs hw; intro W hs hw))
  by_cases k0 : k = 0
  · subst k0
    by_cases n0 : n = 0
    · subst n0
      by_cases hz : s.size = 0
      · have e1 := empty_eq s hz
        have hO : ((ofRaw 0 0 s).2 == 0) = true := by unfold ofRaw; rw [if_pos ⟨rfl, rfl, hz⟩]; rfl
        repeat (first | (refine sxv hs hw ?_; clear hs; intro a hs) | refine sxc hs ?_ | (refine sxa hs hw ?_; clear hs hw; intro a b W hw hs) | (refine sxs hs hw ?_; clear hs hw; intro W hs hw))
        rw [e1] at hs
        repeat (first | (refine sxv hs hw ?_; clear hs; intro a hs) | refine sxc hs ?_ | (refine sxa hs hw ?_; clear hs hw; intro a b W hw hs) | (refine sxs hs hw ?_; clear hs hw; intro W hs hw))
        exact rt1 hs rfl rfl ⟨by rw [hO]; rfl, hw.end (by repeat (first | exact In.hd | apply In.tl))⟩
      · have e1 := empty_ne s hz
        have hO : ((ofRaw 0 0 s).2 == 0) = false := by unfold ofRaw; rw [if_neg (fun h => hz h.2.2), if_neg (fun h => by omega), if_neg (fun h => by omega)]; rfl
        repeat (first | (refine sxv hs hw ?_; clear hs; intro a hs) | refine sxc hs ?_ | (refine sxa hs hw ?_; clear hs hw; intro a b W hw hs) | (refine sxs hs hw ?_; clear hs hw; intro W hs hw))
        rw [e1] at hs
        repeat (first | (refine sxv hs hw ?_; clear hs; intro a hs) | refine sxc hs ?_ | (refine sxa hs hw ?_; clear hs hw; intro a b W hw hs) | (refine sxs hs hw ?_; clear hs hw; intro W hs hw))
        exact rt1 hs rfl rfl ⟨by rw [hO]; rfl, hw.end (by repeat (first | exact In.hd | apply In.tl))⟩
    · have e1 : (n == 0) = false := by simpa using n0
      have hO : ((ofRaw 0 n s).2 == 0) = false := by unfold ofRaw; rw [if_neg (fun h => n0 h.2.1), if_neg (fun h => by omega), if_neg (fun h => by omega)]; rfl
      repeat (first | (refine sxv hs hw ?_; clear hs; intro a hs) | refine sxc hs ?_ | (refine sxa hs hw ?_; clear hs hw; intro a b W hw hs) | (refine sxs hs hw ?_; clear hs hw; intro W hs hw))
      rw [e1] at hs
      repeat (first | (refine sxv hs hw ?_; clear hs; intro a hs) | refine sxc hs ?_ | (refine sxa hs hw ?_; clear hs hw; intro a b W hw hs) | (refine sxs hs hw ?_; clear hs hw; intro W hs hw))
      exact rt1 hs rfl rfl ⟨by rw [hO]; rfl, hw.end (by repeat (first | exact In.hd | apply In.tl))⟩
  by_cases k1 : k = 1
  · subst k1
    by_cases hz : s.size = 0
    · have e1 := empty_eq s hz
      have hO : ((ofRaw 1 n s).2 == 0) = true := by unfold ofRaw; rw [if_neg (fun h => by omega), if_pos ⟨rfl, hz⟩]; rfl
      repeat (first | (refine sxv hs hw ?_; clear hs; intro a hs) | refine sxc hs ?_ | (refine sxa hs hw ?_; clear hs hw; intro a b W hw hs) | (refine sxs hs hw ?_; clear hs hw; intro W hs hw))
      exact rt1 hs rfl rfl ⟨by rw [hO, e1], hw.end (by repeat (first | exact In.hd | apply In.tl))⟩
    · have e1 := empty_ne s hz
      have hO : ((ofRaw 1 n s).2 == 0) = false := by unfold ofRaw; rw [if_neg (fun h => by omega), if_neg (fun h => hz h.2), if_neg (fun h => by omega)]; rfl
      repeat (first | (refine sxv hs hw ?_; clear hs; intro a hs) | refine sxc hs ?_ | (refine sxa hs hw ?_; clear hs hw; intro a b W hw hs) | (refine sxs hs hw ?_; clear hs hw; intro W hs hw))
      exact rt1 hs rfl rfl ⟨by rw [hO, e1], hw.end (by repeat (first | exact In.hd | apply In.tl))⟩
  have e0 : (k == 0) = false := by simpa using k0
  have e1 : (k == 1) = false := by simpa using k1
  rw [e0] at hs
  repeat (first | (refine sxv hs hw ?_; clear hs; intro a hs) | refine sxc hs ?_ | (refine sxa hs hw ?_; clear hs hw; intro a b W hw hs) | (refine sxs hs hw ?_; clear hs hw; intro W hs hw))
  rw [e1] at hs
  by_cases k2 : k = 2
  · subst k2
    repeat (first | (refine sxv hs hw ?_; clear hs; intro a hs) | refine sxc hs ?_ | (refine sxa hs hw ?_; clear hs hw; intro a b W hw hs) | (refine sxs hs hw ?_; clear hs hw; intro W hs hw))
    refine st_call hs (hc := ref_Runes s _ hs0) (k := ?_); rintro _ W1 ⟨vl, va, rfl, _, _, hb⟩; refine ⟨_, rfl, ?_⟩; clear hs; intro a hs; replace hw := hw.below hb; clear hb
    repeat (first | (refine sxv hs hw ?_; clear hs; intro a hs) | refine sxc hs ?_ | (refine sxa hs hw ?_; clear hs hw; intro a b W hw hs) | (refine sxs hs hw ?_; clear hs hw; intro W hs hw))
    by_cases n0 : n = 0
    · subst n0
      cases hv : Lib.validD s.data.toList with
      | false =>
        have hO : ((ofRaw 2 0 s).2 == 0) = false := by unfold ofRaw; rw [if_neg (fun h => by omega), if_neg (fun h => by omega), if_neg (fun h => by rw [hv] at h; cases h.2.2.2)]; rfl
        rw [hv] at hs
        repeat (first | (refine sxv hs hw ?_; clear hs; intro a hs) | refine sxc hs ?_ | (refine sxa hs hw ?_; clear hs hw; intro a b W hw hs) | (refine sxs hs hw ?_; clear hs hw; intro W hs hw))
        exact rt1 hs rfl rfl ⟨by rw [hO]; rfl, hw.end (by repeat (first | exact In.hd | apply In.tl))⟩
      | true =>
        rw [hv] at hs
        repeat (first | (refine sxv hs hw ?_; clear hs; intro a hs) | refine sxc hs ?_ | (refine sxa hs hw ?_; clear hs hw; intro a b W hw hs) | (refine sxs hs hw ?_; clear hs hw; intro W hs hw))
        by_cases hl : s.size ≤ 200
        · have e3 : decide ((s.size : Int) ≤ 200) = true := by simp; omega
          have hO : ((ofRaw 2 0 s).2 == 0) = true := by unfold ofRaw; rw [if_neg (fun h => by omega), if_neg (fun h => by omega), if_pos ⟨rfl, rfl, hl, hv⟩]; rfl
          rw [e3] at hs
          exact rt1 hs rfl rfl ⟨by rw [hO]; rfl, hw.end (by repeat (first | exact In.hd | apply In.tl))⟩
        · have e3 : decide ((s.size : Int) ≤ 200) = false := by simp; omega
          have hO : ((ofRaw 2 0 s).2 == 0) = false := by unfold ofRaw; rw [if_neg (fun h => by omega), if_neg (fun h => by omega), if_neg (fun h => hl h.2.2.1)]; rfl
          rw [e3] at hs
          exact rt1 hs rfl rfl ⟨by rw [hO]; rfl, hw.end (by repeat (first | exact In.hd | apply In.tl))⟩
    · have e3 : (n == 0) = false := by simpa using n0
      have hO : ((ofRaw 2 n s).2 == 0) = false := by unfold ofRaw; rw [if_neg (fun h => by omega), if_neg (fun h => by omega), if_neg (fun h => n0 h.2.1)]; rfl
      rw [e3] at hs
      repeat (first | (refine sxv hs hw ?_; clear hs; intro a hs) | refine sxc hs ?_ | (refine sxa hs hw ?_; clear hs hw; intro a b W hw hs) | (refine sxs hs hw ?_; clear hs hw; intro W hs hw))
      exact rt1 hs rfl rfl ⟨by rw [hO]; rfl, hw.end (by repeat (first | exact In.hd | apply In.tl))⟩
  · have e2 : (k == 2) = false := by simpa using k2
    have hO : ((ofRaw k n s).2 == 0) = false := by unfold ofRaw; rw [if_neg (fun h => k0 h.1), if_neg (fun h => k1 h.1), if_neg (fun h => k2 h.1)]; rfl
    repeat (first | (refine sxv hs hw ?_; clear hs; intro a hs) | refine sxc hs ?_ | (refine sxa hs hw ?_; clear hs hw; intro a b W hw hs) | (refine sxs hs hw ?_; clear hs hw; intro W hs hw))
    rw [e2] at hs
    repeat (first | (refine sxv hs hw ?_; clear hs; intro a hs) | refine sxc hs ?_ | (refine sxa hs hw ?_; clear hs hw; intro a b W hw hs) | (refine sxs hs hw ?_; clear hs hw; intro W hs hw))
    exact rt1 hs rfl rfl ⟨by rw [hO], hw.end (by repeat (first | exact In.hd | apply In.tl))⟩
end Go.Proofs.YtmalklakaalaoaaGreatDoor.Sw

set_option linter.unusedVariables false
set_option maxRecDepth 10000
namespace Go.Proofs.YtmalklakaalaoaaGreatDoor
open Go.RowKit
set_option maxHeartbeats 400000 in
theorem runes_Key (s : ByteArray) (w : World) (hs : s.size ≤ 9223372036854775807) (hT : Tabs w) :
    Calls Tryz.prog 100 #[.string s] w fun e w' => e = .returned (.bool (Ph.keyB s.data.toList)) ∧ Below w.heap.size w w' := by
  have hcl := Ph.count_le s
  go_enter Tryz.func100, Tryz.ntmps100
  go_wp2
  go_loopw [3] (fun n wr => ∃ pos k : Nat, wr = w.iter s pos ∧ n = .int .i64 k ∧ k ≤ s.size ∧ Hid (k + (Ph.rs (s.data.toList.drop pos)).length = Ph.count s.data.toList) ∧ Hid (Ph.plainB (Ph.rs s.data.toList) = Ph.plainB (Ph.rs (s.data.toList.drop pos)))) (fun _ wr => s.size - wr.iterPos w.heap.size)
  case atStart => exact ⟨0, 0, rfl, rfl, by omega, by unfold Hid; simp [Ph.count], by unfold Hid; simp⟩
  case round =>
    obtain ⟨pos, k, rfl, rfl, hkb, HK, HP⟩ := hrel
    by_cases hp : pos < s.size
    · have hnx := fun ty => run_next_any (P := Tryz.prog) w s pos ty hp
      have HR : Hid (Ph.rs (s.data.toList.drop pos) = Utf8.decode s pos :: Ph.rs (s.data.toList.drop (pos + (Utf8.decode s pos).2))) := Ph.rs_at s pos hp
      have hk1 : k + 1 ≤ s.size := by
        have h1 := HK.out
        rw [HR.out, List.length_cons] at h1
        omega
      have bad : (Utf8.decode s pos).1 < 32 ∨ (Utf8.decode s pos).1 = 127 → Ph.keyB s.data.toList = false := fun h => Ph.keyB_bad (by rw [HP.out, HR.out, Ph.plainB_bad h])
      have BAD := Lib.hid bad
      clear bad
      by_cases h32 : (Utf8.decode s pos).1 < 32
      · have h32' : ((Utf8.decode s pos).1 : Int) < 32 := by omega
        go_wp2
        go_ret
        exact ⟨ret_bool (BAD.out (.inl h32)).symm, (Below.refl _ _).alloc (Nat.le_refl _) _⟩
      · by_cases h127 : (Utf8.decode s pos).1 = 127
        · have h32' : (32 : Int) ≤ ((Utf8.decode s pos).1 : Int) := by omega
          have h127' : (((Utf8.decode s pos).1 : Int) == 127) = true := by rw [beq_iff_eq]; omega
          have HB : Hid (Ph.keyB s.data.toList = false) := BAD.out (.inr h127)
          clear h127
          go_wp2
          go_ret
          exact ⟨ret_bool HB.out.symm, (Below.refl _ _).alloc (Nat.le_refl _) _⟩
        · have h32' : (32 : Int) ≤ ((Utf8.decode s pos).1 : Int) := by omega
          have h127' : (((Utf8.decode s pos).1 : Int) == 127) = false := by rw [beq_eq_false_iff_ne]; omega
          have HG : Hid (¬ ((Utf8.decode s pos).1 < 32 ∨ (Utf8.decode s pos).1 = 127)) := by show ¬ _; omega
          clear h127
          go_wp2
          go_roundw
          case rel =>
            refine ⟨pos + (Utf8.decode s pos).2, k + 1, rfl, by go_num, hk1, ?_, ?_⟩
            · have h1 := HK.out
              rw [HR.out, List.length_cons] at h1
              show _ = _
              omega
            · show _ = _
              rw [HP.out, HR.out, Ph.plainB_good HG.out]
          case measure =>
            have := Ph.width_pos s pos
            rw [World.iterPos_iter, World.iterPos_iter]
            omega
    · have hnx := fun ty => run_next_end (P := Tryz.prog) w s pos ty hp
      have hT2 : Tabs (w.iter s pos) := hT.keep ((Below.refl _ _).alloc (Nat.le_refl _) _)
      have HK2 : Hid (k = Ph.count s.data.toList ∧ Ph.plainB (Ph.rs s.data.toList) = true) := by
        have h1 := HK.out
        have h2 := HP.out
        rw [Ph.rs_end s pos hp] at h1 h2
        exact ⟨h1, h2⟩
      by_cases h1 : 1 ≤ k ∧ k ≤ 40
      · obtain ⟨ha, hb'⟩ := h1
        have ha' : (1 : Int) ≤ (k : Int) := by omega
        have hb'' : (k : Int) ≤ 40 := by omega
        go_wp2_with (go_at_call 123; refine (runes_Valid _ _ hs hT2).mono ?_; rintro e w' ⟨rfl, hb⟩)
        go_ret
        refine ⟨ret_bool ?_, ((Below.refl _ _).alloc (Nat.le_refl _) (.stringIter s _)).trans (hb.mono (by simp [World.iter]))⟩
        rw [Ph.keyB_long HK2.out.2 (by rw [← HK2.out.1]; omega) (by rw [← HK2.out.1]; omega)]
      · have HS : Hid (Ph.keyB s.data.toList = false) := Ph.keyB_short (by rw [← HK2.out.1]; exact h1)
        by_cases ha : 1 ≤ k
        · have ha' : (1 : Int) ≤ (k : Int) := by omega
          have hb'' : (40 : Int) < (k : Int) := by omega
          clear h1
          go_wp2
          go_ret
          exact ⟨ret_bool HS.out.symm, (Below.refl _ _).alloc (Nat.le_refl _) _⟩
        · have ha' : (k : Int) < 1 := by omega
          clear h1
          go_wp2
          go_ret
          exact ⟨ret_bool HS.out.symm, (Below.refl _ _).alloc (Nat.le_refl _) _⟩
end Go.Proofs.YtmalklakaalaoaaGreatDoor

set_option linter.unusedVariables false
set_option maxRecDepth 10000
namespace Go.Proofs.YtmalklakaalaoaaGreatDoor
open Go.RowKit
-- pieces
set_option maxHeartbeats 400000 in
theorem ref_Key (s : ByteArray) (w : World) (hs : s.size ≤ 1000000) :
    Calls Tryz.prog 114 #[.string s] w fun e w' => e = .returned (.bool (Ph.keyB s.data.toList)) ∧ Below w.heap.size w w' := by
  have hcl := Ph.count_le s
  have hcl' : (Ph.rs s.data.toList).length ≤ s.size := hcl
  by_cases h1 : (Ph.rs s.data.toList).length < 1 ∨ 40 < (Ph.rs s.data.toList).length ∨ Lib.validD s.data.toList = false
  · have HF : Hid (Ph.keyB s.data.toList = false) := by
      show _ = _
      rcases h1 with h | h | h
      · exact Ph.keyB_short (by unfold Ph.count; omega)
      · exact Ph.keyB_short (by unfold Ph.count; omega)
      · simp [Ph.keyB, h]
    have H1 := Lib.hid h1
    clear h1
    by_cases c1 : (Ph.rs s.data.toList).length < 1
    · have c1' : ((Ph.rs s.data.toList).length : Int) < 1 := by omega
      go_enter Tryz.func114, Tryz.ntmps114
      go_wp2_with fail
      refine (ref_Runes s _ hs).mono ?_
      rintro e w' ⟨vl, va, rfl, hl, ha, hb⟩
      obtain ⟨Al, cl, rfl, _, _, fl⟩ := own_slice hl
      go_wp2
      go_ret
      exact ⟨ret_bool HF.out.symm, hb⟩
    · have c1' : (1 : Int) ≤ ((Ph.rs s.data.toList).length : Int) := by omega
      by_cases c2 : 40 < (Ph.rs s.data.toList).length
      · have c2' : (40 : Int) < ((Ph.rs s.data.toList).length : Int) := by omega
        go_enter Tryz.func114, Tryz.ntmps114
        go_wp2_with fail
        refine (ref_Runes s _ hs).mono ?_
        rintro e w' ⟨vl, va, rfl, hl, ha, hb⟩
        obtain ⟨Al, cl, rfl, _, _, fl⟩ := own_slice hl
        go_wp2
        go_ret
        exact ⟨ret_bool HF.out.symm, hb⟩
      · have c2' : ((Ph.rs s.data.toList).length : Int) ≤ 40 := by omega
        have c3 : Lib.validD s.data.toList = false := by
          rcases H1.out with h | h | h
          · omega
          · omega
          · exact h
        go_enter Tryz.func114, Tryz.ntmps114
        go_wp2_with fail
        refine (ref_Runes s _ hs).mono ?_
        rintro e w' ⟨vl, va, rfl, hl, ha, hb⟩
        rw [c3]
        clear c3
        obtain ⟨Al, cl, rfl, _, _, fl⟩ := own_slice hl
        go_wp2
        go_ret
        exact ⟨ret_bool HF.out.symm, hb⟩
  · have c1' : (1 : Int) ≤ ((Ph.rs s.data.toList).length : Int) := by omega
    have c2' : ((Ph.rs s.data.toList).length : Int) ≤ 40 := by omega
    have c3 : Lib.validD s.data.toList = true := by
      cases h : Lib.validD s.data.toList
      · exact absurd (.inr (.inr h)) h1
      · rfl
    have HK : Hid (Ph.keyB s.data.toList = Ph.plainB (Ph.rs s.data.toList)) := by
      show _ = _
      cases hp : Ph.plainB (Ph.rs s.data.toList)
      · exact Ph.keyB_bad hp
      · rw [Ph.keyB_long hp (by unfold Ph.count; omega) (by unfold Ph.count; omega), c3]
    have hok := Ph.rs_small s.data.toList
    have HOK := Lib.hid hok
    clear h1 hok
    go_enter Tryz.func114, Tryz.ntmps114
    go_wp2_with fail
    refine (ref_Runes s _ hs).mono ?_
    rintro e w' ⟨vl, va, rfl, hl, ha, hb⟩
    rw [c3]
    clear c3
    obtain ⟨Al, cl, rfl, _, _, fl⟩ := own_slice hl
    obtain ⟨g, rfl, fc⟩ := fl (by omega)
    have FC := Lib.hid fc
    clear fc fl
    go_wp2
    go_loop [6] (fun i => ∃ k : Nat, k ≤ (Ph.rs s.data.toList).length ∧ i = .int .i64 k ∧ Hid (Ph.keyB s.data.toList = Ph.plainB ((Ph.rs s.data.toList).drop k))) (fun i => (Ph.rs s.data.toList).length - (intOf i).toNat)
    case atStart => exact ⟨0, by omega, rfl, by show _ = _; rw [HK.out]; rfl⟩
    case round =>
      obtain ⟨k, hk, rfl, HP⟩ := hrel
      by_cases hlt : k < (Ph.rs s.data.toList).length
      · have hlt' : (k : Int) < ((Ph.rs s.data.toList).length : Int) := by omega
        have hc := FC.out k (by omega)
        rw [Ph.runeVals_get _ k hlt] at hc
        have HD : Hid ((Ph.rs s.data.toList).drop k = (Ph.rs s.data.toList)[k] :: (Ph.rs s.data.toList).drop (k + 1)) := List.drop_eq_getElem_cons hlt
        have hr := HOK.out _ (List.getElem_mem hlt)
        generalize (Ph.rs s.data.toList)[k] = d at *
        by_cases h32 : d.1 < 32
        · have h32' : (d.1 : Int) < 32 := by omega
          have HB : Hid (Ph.keyB s.data.toList = false) := by show _ = _; rw [HP.out, HD.out, Ph.plainB_bad (.inl h32)]
          go_wp2
          go_ret
          exact ⟨ret_bool HB.out.symm, hb⟩
        · have h32' : (32 : Int) ≤ (d.1 : Int) := by omega
          by_cases h127 : d.1 = 127
          · have h127' : ((d.1 : Int) == 127) = true := by rw [beq_iff_eq]; omega
            have HB : Hid (Ph.keyB s.data.toList = false) := by show _ = _; rw [HP.out, HD.out, Ph.plainB_bad (.inr h127)]
            clear h127
            go_wp2
            go_ret
            exact ⟨ret_bool HB.out.symm, hb⟩
          · have h127' : ((d.1 : Int) == 127) = false := by rw [beq_eq_false_iff_ne]; omega
            have HG : Hid (Ph.keyB s.data.toList = Ph.plainB ((Ph.rs s.data.toList).drop (k + 1))) := by show _ = _; rw [HP.out, HD.out, Ph.plainB_good (by omega)]
            clear h127
            go_wp2
            go_round
            case rel => exact ⟨k + 1, by omega, by go_num, HG⟩
            case measure => simp [intOf]; omega
      · have hlt' : ((Ph.rs s.data.toList).length : Int) ≤ (k : Int) := by omega
        have HB : Hid (Ph.keyB s.data.toList = true) := by
          show _ = _
          rw [HP.out, List.drop_eq_nil_of_le (by omega)]; rfl
        go_wp2
        go_ret
        exact ⟨ret_bool HB.out.symm, hb⟩
end Go.Proofs.YtmalklakaalaoaaGreatDoor

set_option linter.unusedVariables false
set_option maxRecDepth 10000
namespace Go.Sx
open Go.RowKit
theorem run_eqFields_cons {P : Program} {d : Nat} {xs ys : List Value} {f : Field} {fs : List Field} {W : World} {x y : Value} {b : Bool} {z : List Value} (u : Ty P f.type false z) (hn : (f.name != "_") = true) (hx : xs[f.offset]? = some x) (hy : ys[f.offset]? = some y) (he : (Op.equalIn d f.type x y).run P W = .ok b W) :
    (Op.eqFields d ⟨xs⟩ ⟨ys⟩ (f :: fs)).run P W = if b then (Op.eqFields d ⟨xs⟩ ⟨ys⟩ fs).run P W else .ok false W := by
  have hn' : f.name ≠ "_" := by simpa using hn
  simp only [Op.eqFields, if_pos hn', Sem.run_bind, part, u.isAgg, Result.andThen_ok, Bool.false_eq_true, if_false]
  simp only [List.getElem?_toArray, hx, hy, Sem.run_pure, Result.andThen_ok, he]
  cases b <;> simp
theorem run_eq3 {P : Program} {T TI TN TS : TypeId} {zi zn zs : List Value} [IntTy P TI .i64] [IntTy P TN .i64] [StrTy P TS] [ui : Ty P TI false zi] [un : Ty P TN false zn] [us : Ty P TS false zs] (ht : P.underlying T = some (.struct (P.fieldsOf T))) (hp : P.stoodInHeld T = false)
    (hF : (P.fieldsOf T).toList.map (fun f => (f.name != "_", f.offset, f.type)) = [(true, 0, TI), (true, 1, TN), (true, 2, TS)]) (k n : Int) (s : ByteArray) (k' n' : Int) (s' : ByteArray) (W : World) :
    (Op.equalIn 10000 T (.agg ⟨[.int .i64 k, .int .i64 n, .string s]⟩) (.agg ⟨[.int .i64 k', .int .i64 n', .string s']⟩)).run P W = .ok ((k == k') && (n == n') && (s.toList == s'.toList)) W := by
  rw [run_equalIn_agg W 9999 T _ _ ht hp]
  obtain ⟨f0, r0, e0, m0, hr0⟩ := List.map_eq_cons_iff.1 hF
  obtain ⟨f1, r1, e1, m1, hr1⟩ := List.map_eq_cons_iff.1 hr0
  obtain ⟨f2, r2, e2, m2, hr2⟩ := List.map_eq_cons_iff.1 hr1
  have hr3 := List.map_eq_nil_iff.1 hr2
  subst hr3 e2 e1
  rw [e0]
  simp only [Prod.mk.injEq] at m0 m1 m2
  obtain ⟨a0, b0, c0⟩ := m0
  obtain ⟨a1, b1, c1⟩ := m1
  obtain ⟨a2, b2, c2⟩ := m2
  rw [run_eqFields_cons (x := .int .i64 k) (y := .int .i64 k') (b := k == k') (z := zi) (by rw [c0]; exact ui) a0 (by rw [b0]; rfl) (by rw [b0]; rfl) (by rw [c0]; exact run_equalIn_int W 9998 TI .i64 .i64 k k' (IntTy.out))]
  rw [run_eqFields_cons (x := .int .i64 n) (y := .int .i64 n') (b := n == n') (z := zn) (by rw [c1]; exact un) a1 (by rw [b1]; rfl) (by rw [b1]; rfl) (by rw [c1]; exact run_equalIn_int W 9998 TN .i64 .i64 n n' (IntTy.out))]
  rw [run_eqFields_cons (x := .string s) (y := .string s') (b := s.toList == s'.toList) (z := zs) (by rw [c2]; exact us) a2 (by rw [b2]; rfl) (by rw [b2]; rfl) (by rw [c2]; exact run_equalIn_string W 9998 TS s s' (StrTy.out))]
  simp only [Op.eqFields, Sem.run_pure]
  cases k == k' <;> cases n == n' <;> cases s.toList == s'.toList <;> rfl
end Go.Sx
namespace Go.Proofs.YtmalklakaalaoaaGreatDoor.Sw
open Go.RowKit Go.Sx
def rawEq (k n : Int) (s : ByteArray) (k' n' : Int) (s' : ByteArray) : Bool := (k == k') && (n == n') && (s.toList == s'.toList)
theorem run_rawEqIn (k n : Int) (s : ByteArray) (k' n' : Int) (s' : ByteArray) (W : World) :
    (Op.equalIn 10000 93 (.agg ⟨[.int .i64 k, .int .i64 n, .string s]⟩) (.agg ⟨[.int .i64 k', .int .i64 n', .string s']⟩)).run Tryz.prog W = .ok (rawEq k n s k' n' s') W :=
  run_eq3 Tryz.underlying93 (by kernel_rfl) (by kernel_rfl : _ = [(true, 0, 3), (true, 1, 2), (true, 2, 9)]) k n s k' n' s' W
section
variable {ops : Array Oper} {rest : List Oper} {Q : Exit → Act → World → Prop} {a : Act} {n : Nat} {L : List (Nat × Value)} {W : World} {d : Nat} {T S' : TypeId} {p : String} {e : Array Edge} {x y : Operand} {k m k' m' : Int} {s s' : ByteArray}
theorem st_rawEql (hs : Slots a n L) (hx : ev L x = some (.agg ⟨[.int .i64 k, .int .i64 m, .string s]⟩) := by with_unfolding_all exact rfl) (hy : ev L y = some (.agg ⟨[.int .i64 k', .int .i64 m', .string s']⟩) := by with_unfolding_all exact rfl) (hd : Nat.blt d n = true := by with_unfolding_all exact rfl)
    (c : ∀ a', Slots a' n ((d, .bool (rawEq k m s k' m' s')) :: L) → wpList Tryz.prog ops Q rest a' W) : wpList Tryz.prog ops Q (⟨some d, .binOp .eql 93 x y S', T, p, e, none⟩ :: rest) a W :=
  st_value hs hd (by simp only [execOp, hs.ev hx, hs.ev hy, Sem.run_bind]; rw [run_eqGuard_agg W .eql 93 x y _ _ (by kernel_rfl)]; simp only [Result.andThen_ok]; rw [run_eql_struct, run_rawEqIn]; rfl) c
theorem st_rawNeq (hs : Slots a n L) (hx : ev L x = some (.agg ⟨[.int .i64 k, .int .i64 m, .string s]⟩) := by with_unfolding_all exact rfl) (hy : ev L y = some (.agg ⟨[.int .i64 k', .int .i64 m', .string s']⟩) := by with_unfolding_all exact rfl) (hd : Nat.blt d n = true := by with_unfolding_all exact rfl)
    (c : ∀ a', Slots a' n ((d, .bool (!rawEq k m s k' m' s')) :: L) → wpList Tryz.prog ops Q rest a' W) : wpList Tryz.prog ops Q (⟨some d, .binOp .neq 93 x y S', T, p, e, none⟩ :: rest) a W :=
  st_value hs hd (by simp only [execOp, hs.ev hx, hs.ev hy, Sem.run_bind]; rw [run_eqGuard_agg W .neq 93 x y _ _ (by kernel_rfl)]; simp only [Result.andThen_ok]; rw [run_neq_struct, run_rawEqIn]; rfl) c
end
theorem one_cellX (x : Option (Int ⊕ ByteArray)) : [vCell x].all (·.oneCell') = true := by rcases x with _ | n | s <;> rfl
theorem op_may (k n : Int) (s : ByteArray) (w : World) (hs0 : s.size ≤ 9223372036854775807) (hT : Tabs w) :
    Calls Tryz.prog 106 ⟨[.agg #[.int .i64 k, .int .i64 n, .string s]]⟩ w fun e w' => e = .returned (.bool ((ofRaw k n s).2 == 0)) ∧ Below w.heap.size w w' := by
  have hw := Has.start (G := 0) (w := w) (Nat.zero_le _)
  refine enter Tryz.func106 Tryz.ntmps106 rfl rfl fun a hs => ?_
  repeat (first | (refine sxv hs hw ?_; clear hs; intro a hs) | refine sxc hs ?_ | (refine sxa hs hw ?_; clear hs hw; intro a b W hw hs) | (refine sxs hs hw ?_; clear hs hw; intro W hs hw))
  refine st_call hs (hc := value_Of k n s _ hs0 (hT.keep (hw.end (by repeat (first | exact In.hd | apply In.tl))))) (k := ?_); rintro e0 W1 ⟨rfl, hb⟩; refine ⟨_, rfl, ?_⟩; clear hs; intro a hs; replace hw := hw.below hb; clear hb
  repeat (first | (refine sxv hs hw ?_; clear hs; intro a hs) | refine sxc hs ?_ | (refine sxa hs hw ?_; clear hs hw; intro a b W hw hs) | (refine sxs hs hw ?_; clear hs hw; intro W hs hw))
  refine st_store hs (hw := hw) (h1 := one_cellX (ofRaw k n s).1) (k := ?_); clear hs hw; intro W hs hw
  repeat (first | (refine sxv hs hw ?_; clear hs; intro a hs) | refine sxc hs ?_ | (refine sxa hs hw ?_; clear hs hw; intro a b W hw hs) | (refine sxs hs hw ?_; clear hs hw; intro W hs hw))
  exact rt1 hs rfl rfl ⟨rfl, hw.end (by repeat (first | exact In.hd | apply In.tl))⟩
def mayOp (kind : Int) (key : ByteArray) (vk vn : Int) (vs : ByteArray) (ok on : Int) (os : ByteArray) (n : Int) : Bool :=
  Ph.keyB key.data.toList && ((ofRaw vk vn vs).2 == 0) && ((ofRaw ok on os).2 == 0) &&
    (if kind = 1 then !rawEq vk vn vs 0 0 ⟨#[]⟩ && rawEq ok on os 0 0 ⟨#[]⟩ && (n == 0)
     else if kind = 2 then rawEq vk vn vs 0 0 ⟨#[]⟩ && rawEq ok on os 0 0 ⟨#[]⟩ && (n == 0)
     else if kind = 3 then (!rawEq vk vn vs 0 0 ⟨#[]⟩ || !rawEq ok on os 0 0 ⟨#[]⟩) && (n == 0)
     else if kind = 4 then rawEq vk vn vs 0 0 ⟨#[]⟩ && rawEq ok on os 0 0 ⟨#[]⟩ && decide (n ≥ -1099511627776) && decide (n ≤ 1099511627776)
     else false)
set_option maxHeartbeats 8000000 in
theorem op_May (kind : Int) (key : ByteArray) (vk vn : Int) (vs : ByteArray) (ok on : Int) (os : ByteArray) (n : Int) (w : World) (hs0 : key.size ≤ 9223372036854775807) (hs1 : vs.size ≤ 9223372036854775807) (hs2 : os.size ≤ 9223372036854775807) (hT : Tabs w) :
    Calls Tryz.prog 78 ⟨[.agg #[.int .i64 kind, .string key, .int .i64 vk, .int .i64 vn, .string vs, .int .i64 ok, .int .i64 on, .string os, .int .i64 n]]⟩ w fun e w' => e = .returned (.bool (mayOp kind key vk vn vs ok on os n)) ∧ Below w.heap.size w w' := by
  have hw := Has.start (G := 0) (w := w) (Nat.zero_le _)
  refine enter Tryz.func78 Tryz.ntmps78 rfl rfl fun a hs => ?_
  repeat (first | (refine sxv hs hw ?_; clear hs; intro a hs) | refine sxc hs ?_ | (refine sxa hs hw ?_; clear hs hw; intro a b W hw hs) | (refine sxs hs hw ?_; clear hs hw; intro W hs hw))
  refine st_call hs (hc := runes_Key key _ hs0 (hT.keep (hw.end (by repeat (first | exact In.hd | apply In.tl))))) (k := ?_); rintro e0 W1 ⟨rfl, hb⟩; refine ⟨_, rfl, ?_⟩; clear hs; intro a hs; replace hw := hw.below hb; clear hb
  cases h1 : (Ph.keyB key.data.toList) with
  | false =>
    rw [h1] at hs
    repeat (first | (refine sxv hs hw ?_; clear hs; intro a hs) | refine sxc hs ?_ | (refine sxa hs hw ?_; clear hs hw; intro a b W hw hs) | (refine sxs hs hw ?_; clear hs hw; intro W hs hw))
    exact rt1 hs rfl rfl ⟨by simp [mayOp, h1], hw.end (by repeat (first | exact In.hd | apply In.tl))⟩
  | true =>
    rw [h1] at hs
    repeat (first | (refine sxv hs hw ?_; clear hs; intro a hs) | refine sxc hs ?_ | (refine sxa hs hw ?_; clear hs hw; intro a b W hw hs) | (refine sxs hs hw ?_; clear hs hw; intro W hs hw))
    refine st_call hs (hc := op_may vk vn vs _ hs1 (hT.keep (hw.end (by repeat (first | exact In.hd | apply In.tl))))) (k := ?_); rintro e0 W1 ⟨rfl, hb⟩; refine ⟨_, rfl, ?_⟩; clear hs; intro a hs; replace hw := hw.below hb; clear hb
    cases h2 : ((ofRaw vk vn vs).2 == 0) with
    | false =>
      rw [h2] at hs
      repeat (first | (refine sxv hs hw ?_; clear hs; intro a hs) | refine sxc hs ?_ | (refine sxa hs hw ?_; clear hs hw; intro a b W hw hs) | (refine sxs hs hw ?_; clear hs hw; intro W hs hw))
      exact rt1 hs rfl rfl ⟨by simp [mayOp, h1, h2], hw.end (by repeat (first | exact In.hd | apply In.tl))⟩
    | true =>
      rw [h2] at hs
      repeat (first | (refine sxv hs hw ?_; clear hs; intro a hs) | refine sxc hs ?_ | (refine sxa hs hw ?_; clear hs hw; intro a b W hw hs) | (refine sxs hs hw ?_; clear hs hw; intro W hs hw))
      refine st_call hs (hc := op_may ok on os _ hs2 (hT.keep (hw.end (by repeat (first | exact In.hd | apply In.tl))))) (k := ?_); rintro e0 W1 ⟨rfl, hb⟩; refine ⟨_, rfl, ?_⟩; clear hs; intro a hs; replace hw := hw.below hb; clear hb
      cases h3 : ((ofRaw ok on os).2 == 0) with
      | false =>
        rw [h3] at hs
        repeat (first | (refine sxv hs hw ?_; clear hs; intro a hs) | refine sxc hs ?_ | (refine sxa hs hw ?_; clear hs hw; intro a b W hw hs) | (refine sxs hs hw ?_; clear hs hw; intro W hs hw))
        exact rt1 hs rfl rfl ⟨by simp [mayOp, h1, h2, h3], hw.end (by repeat (first | exact In.hd | apply In.tl))⟩
      | true =>
        rw [h3] at hs
        repeat (first | (refine sxv hs hw ?_; clear hs; intro a hs) | refine sxc hs ?_ | (refine sxa hs hw ?_; clear hs hw; intro a b W hw hs) | (refine sxs hs hw ?_; clear hs hw; intro W hs hw))
        by_cases k1 : kind = 1
        · subst k1
          repeat (first | (refine sxv hs hw ?_; clear hs; intro a hs) | refine sxc hs ?_ | (refine sxa hs hw ?_; clear hs hw; intro a b W hw hs) | (refine sxs hs hw ?_; clear hs hw; intro W hs hw))
          repeat (first | (refine sxv hs hw ?_; clear hs; intro a hs) | refine sxc hs ?_ | (refine sxa hs hw ?_; clear hs hw; intro a b W hw hs) | (refine sxs hs hw ?_; clear hs hw; intro W hs hw))
          refine st_rawNeq hs (c := ?_); clear hs; intro a hs
          cases h4 : (rawEq vk vn vs 0 0 ⟨#[]⟩) with
          | false =>
            rw [h4] at hs
            repeat (first | (refine sxv hs hw ?_; clear hs; intro a hs) | refine sxc hs ?_ | (refine sxa hs hw ?_; clear hs hw; intro a b W hw hs) | (refine sxs hs hw ?_; clear hs hw; intro W hs hw))
            refine st_rawEql hs (c := ?_); clear hs; intro a hs
            cases h5 : (rawEq ok on os 0 0 ⟨#[]⟩) with
            | false =>
              rw [h5] at hs
              repeat (first | (refine sxv hs hw ?_; clear hs; intro a hs) | refine sxc hs ?_ | (refine sxa hs hw ?_; clear hs hw; intro a b W hw hs) | (refine sxs hs hw ?_; clear hs hw; intro W hs hw))
              exact rt1 hs rfl rfl ⟨by simp [mayOp, h1, h2, h3, h4, h5], hw.end (by repeat (first | exact In.hd | apply In.tl))⟩
            | true =>
              rw [h5] at hs
              repeat (first | (refine sxv hs hw ?_; clear hs; intro a hs) | refine sxc hs ?_ | (refine sxa hs hw ?_; clear hs hw; intro a b W hw hs) | (refine sxs hs hw ?_; clear hs hw; intro W hs hw))
              exact rt1 hs rfl rfl ⟨by simp [mayOp, h1, h2, h3, h4, h5], hw.end (by repeat (first | exact In.hd | apply In.tl))⟩
          | true =>
            rw [h4] at hs
            repeat (first | (refine sxv hs hw ?_; clear hs; intro a hs) | refine sxc hs ?_ | (refine sxa hs hw ?_; clear hs hw; intro a b W hw hs) | (refine sxs hs hw ?_; clear hs hw; intro W hs hw))
            exact rt1 hs rfl rfl ⟨by simp [mayOp, h1, h2, h3, h4], hw.end (by repeat (first | exact In.hd | apply In.tl))⟩
        have e1 : (kind == 1) = false := by simpa using k1
        rw [e1] at hs
        repeat (first | (refine sxv hs hw ?_; clear hs; intro a hs) | refine sxc hs ?_ | (refine sxa hs hw ?_; clear hs hw; intro a b W hw hs) | (refine sxs hs hw ?_; clear hs hw; intro W hs hw))
        by_cases k2 : kind = 2
        · subst k2
          repeat (first | (refine sxv hs hw ?_; clear hs; intro a hs) | refine sxc hs ?_ | (refine sxa hs hw ?_; clear hs hw; intro a b W hw hs) | (refine sxs hs hw ?_; clear hs hw; intro W hs hw))
          repeat (first | (refine sxv hs hw ?_; clear hs; intro a hs) | refine sxc hs ?_ | (refine sxa hs hw ?_; clear hs hw; intro a b W hw hs) | (refine sxs hs hw ?_; clear hs hw; intro W hs hw))
          refine st_rawEql hs (c := ?_); clear hs; intro a hs
          cases h4 : (rawEq vk vn vs 0 0 ⟨#[]⟩) with
          | false =>
            rw [h4] at hs
            repeat (first | (refine sxv hs hw ?_; clear hs; intro a hs) | refine sxc hs ?_ | (refine sxa hs hw ?_; clear hs hw; intro a b W hw hs) | (refine sxs hs hw ?_; clear hs hw; intro W hs hw))
            exact rt1 hs rfl rfl ⟨by simp [mayOp, h1, h2, h3, h4], hw.end (by repeat (first | exact In.hd | apply In.tl))⟩
          | true =>
            rw [h4] at hs
            repeat (first | (refine sxv hs hw ?_; clear hs; intro a hs) | refine sxc hs ?_ | (refine sxa hs hw ?_; clear hs hw; intro a b W hw hs) | (refine sxs hs hw ?_; clear hs hw; intro W hs hw))
            refine st_rawEql hs (c := ?_); clear hs; intro a hs
            cases h5 : (rawEq ok on os 0 0 ⟨#[]⟩) with
            | false =>
              rw [h5] at hs
              repeat (first | (refine sxv hs hw ?_; clear hs; intro a hs) | refine sxc hs ?_ | (refine sxa hs hw ?_; clear hs hw; intro a b W hw hs) | (refine sxs hs hw ?_; clear hs hw; intro W hs hw))
              exact rt1 hs rfl rfl ⟨by simp [mayOp, h1, h2, h3, h4, h5], hw.end (by repeat (first | exact In.hd | apply In.tl))⟩
            | true =>
              rw [h5] at hs
              repeat (first | (refine sxv hs hw ?_; clear hs; intro a hs) | refine sxc hs ?_ | (refine sxa hs hw ?_; clear hs hw; intro a b W hw hs) | (refine sxs hs hw ?_; clear hs hw; intro W hs hw))
              exact rt1 hs rfl rfl ⟨by simp [mayOp, h1, h2, h3, h4, h5], hw.end (by repeat (first | exact In.hd | apply In.tl))⟩
        have e2 : (kind == 2) = false := by simpa using k2
        rw [e2] at hs
        repeat (first | (refine sxv hs hw ?_; clear hs; intro a hs) | refine sxc hs ?_ | (refine sxa hs hw ?_; clear hs hw; intro a b W hw hs) | (refine sxs hs hw ?_; clear hs hw; intro W hs hw))
        by_cases k3 : kind = 3
        · subst k3
          repeat (first | (refine sxv hs hw ?_; clear hs; intro a hs) | refine sxc hs ?_ | (refine sxa hs hw ?_; clear hs hw; intro a b W hw hs) | (refine sxs hs hw ?_; clear hs hw; intro W hs hw))
          repeat (first | (refine sxv hs hw ?_; clear hs; intro a hs) | refine sxc hs ?_ | (refine sxa hs hw ?_; clear hs hw; intro a b W hw hs) | (refine sxs hs hw ?_; clear hs hw; intro W hs hw))
          refine st_rawNeq hs (c := ?_); clear hs; intro a hs
          cases h4 : (rawEq vk vn vs 0 0 ⟨#[]⟩) with
          | false =>
            rw [h4] at hs
            repeat (first | (refine sxv hs hw ?_; clear hs; intro a hs) | refine sxc hs ?_ | (refine sxa hs hw ?_; clear hs hw; intro a b W hw hs) | (refine sxs hs hw ?_; clear hs hw; intro W hs hw))
            exact rt1 hs rfl rfl ⟨by simp [mayOp, h1, h2, h3, h4], hw.end (by repeat (first | exact In.hd | apply In.tl))⟩
          | true =>
            rw [h4] at hs
            repeat (first | (refine sxv hs hw ?_; clear hs; intro a hs) | refine sxc hs ?_ | (refine sxa hs hw ?_; clear hs hw; intro a b W hw hs) | (refine sxs hs hw ?_; clear hs hw; intro W hs hw))
            refine st_rawNeq hs (c := ?_); clear hs; intro a hs
            cases h5 : (rawEq ok on os 0 0 ⟨#[]⟩) with
            | false =>
              rw [h5] at hs
              repeat (first | (refine sxv hs hw ?_; clear hs; intro a hs) | refine sxc hs ?_ | (refine sxa hs hw ?_; clear hs hw; intro a b W hw hs) | (refine sxs hs hw ?_; clear hs hw; intro W hs hw))
              exact rt1 hs rfl rfl ⟨by simp [mayOp, h1, h2, h3, h4, h5], hw.end (by repeat (first | exact In.hd | apply In.tl))⟩
            | true =>
              rw [h5] at hs
              repeat (first | (refine sxv hs hw ?_; clear hs; intro a hs) | refine sxc hs ?_ | (refine sxa hs hw ?_; clear hs hw; intro a b W hw hs) | (refine sxs hs hw ?_; clear hs hw; intro W hs hw))
              exact rt1 hs rfl rfl ⟨by simp [mayOp, h1, h2, h3, h4, h5], hw.end (by repeat (first | exact In.hd | apply In.tl))⟩
        have e3 : (kind == 3) = false := by simpa using k3
        rw [e3] at hs
        repeat (first | (refine sxv hs hw ?_; clear hs; intro a hs) | refine sxc hs ?_ | (refine sxa hs hw ?_; clear hs hw; intro a b W hw hs) | (refine sxs hs hw ?_; clear hs hw; intro W hs hw))
        by_cases k4 : kind = 4
        · subst k4
          repeat (first | (refine sxv hs hw ?_; clear hs; intro a hs) | refine sxc hs ?_ | (refine sxa hs hw ?_; clear hs hw; intro a b W hw hs) | (refine sxs hs hw ?_; clear hs hw; intro W hs hw))
          repeat (first | (refine sxv hs hw ?_; clear hs; intro a hs) | refine sxc hs ?_ | (refine sxa hs hw ?_; clear hs hw; intro a b W hw hs) | (refine sxs hs hw ?_; clear hs hw; intro W hs hw))
          refine st_rawEql hs (c := ?_); clear hs; intro a hs
          cases h4 : (rawEq vk vn vs 0 0 ⟨#[]⟩) with
          | false =>
            rw [h4] at hs
            repeat (first | (refine sxv hs hw ?_; clear hs; intro a hs) | refine sxc hs ?_ | (refine sxa hs hw ?_; clear hs hw; intro a b W hw hs) | (refine sxs hs hw ?_; clear hs hw; intro W hs hw))
            exact rt1 hs rfl rfl ⟨by simp [mayOp, h1, h2, h3, h4], hw.end (by repeat (first | exact In.hd | apply In.tl))⟩
          | true =>
            rw [h4] at hs
            repeat (first | (refine sxv hs hw ?_; clear hs; intro a hs) | refine sxc hs ?_ | (refine sxa hs hw ?_; clear hs hw; intro a b W hw hs) | (refine sxs hs hw ?_; clear hs hw; intro W hs hw))
            refine st_rawEql hs (c := ?_); clear hs; intro a hs
            cases h5 : (rawEq ok on os 0 0 ⟨#[]⟩) with
            | false =>
              rw [h5] at hs
              repeat (first | (refine sxv hs hw ?_; clear hs; intro a hs) | refine sxc hs ?_ | (refine sxa hs hw ?_; clear hs hw; intro a b W hw hs) | (refine sxs hs hw ?_; clear hs hw; intro W hs hw))
              exact rt1 hs rfl rfl ⟨by simp [mayOp, h1, h2, h3, h4, h5], hw.end (by repeat (first | exact In.hd | apply In.tl))⟩
            | true =>
              rw [h5] at hs
              repeat (first | (refine sxv hs hw ?_; clear hs; intro a hs) | refine sxc hs ?_ | (refine sxa hs hw ?_; clear hs hw; intro a b W hw hs) | (refine sxs hs hw ?_; clear hs hw; intro W hs hw))
              cases h6 : (decide (n ≥ -1099511627776)) with
              | false =>
                rw [h6] at hs
                repeat (first | (refine sxv hs hw ?_; clear hs; intro a hs) | refine sxc hs ?_ | (refine sxa hs hw ?_; clear hs hw; intro a b W hw hs) | (refine sxs hs hw ?_; clear hs hw; intro W hs hw))
                exact rt1 hs rfl rfl ⟨by simp [mayOp, h1, h2, h3, h4, h5, h6], hw.end (by repeat (first | exact In.hd | apply In.tl))⟩
              | true =>
                rw [h6] at hs
                repeat (first | (refine sxv hs hw ?_; clear hs; intro a hs) | refine sxc hs ?_ | (refine sxa hs hw ?_; clear hs hw; intro a b W hw hs) | (refine sxs hs hw ?_; clear hs hw; intro W hs hw))
                exact rt1 hs rfl rfl ⟨by simp [mayOp, h1, h2, h3, h4, h5, h6], hw.end (by repeat (first | exact In.hd | apply In.tl))⟩
        have e4 : (kind == 4) = false := by simpa using k4
        rw [e4] at hs
        repeat (first | (refine sxv hs hw ?_; clear hs; intro a hs) | refine sxc hs ?_ | (refine sxa hs hw ?_; clear hs hw; intro a b W hw hs) | (refine sxs hs hw ?_; clear hs hw; intro W hs hw))
        repeat (first | (refine sxv hs hw ?_; clear hs; intro a hs) | refine sxc hs ?_ | (refine sxa hs hw ?_; clear hs hw; intro a b W hw hs) | (refine sxs hs hw ?_; clear hs hw; intro W hs hw))
        exact rt1 hs rfl rfl ⟨by simp [mayOp, h1, h2, h3, k1, k2, k3, k4], hw.end (by repeat (first | exact In.hd | apply In.tl))⟩
end Go.Proofs.YtmalklakaalaoaaGreatDoor.Sw

namespace Ph
def putN : Nat → Nat → List UInt8
  | 0, _ => []
  | f + 1, u => if u < 128 then [u.toUInt8] else (u % 128 + 128).toUInt8 :: putN f (u / 128)
def putU (u : Nat) : List UInt8 := putN 10 u
def zig (n : Int) : Nat := if 0 ≤ n then (2 * n).toNat else (-2 * n - 1).toNat
def unzig (u : Nat) : Int := if u % 2 = 1 then -((u / 2 : Nat) : Int) - 1 else ((u / 2 : Nat) : Int)
def putI (n : Int) : List UInt8 := putU (zig n)
def getN : Nat → Nat → List UInt8 → Int × Nat × Int
  | _, _, [] => (0, 0, 2)
  | i, u, c :: t =>
    if i = 9 ∧ 1 < c.toNat then (0, 0, 1)
    else if 128 ≤ c.toNat then getN (i + 1) (u + c.toNat % 128 * 128 ^ i) t
    else if 0 < i ∧ c.toNat = 0 then (0, 0, 1)
    else (unzig (u + c.toNat % 128 * 128 ^ i), i + 1, 0)
def getI (l : List UInt8) : Int × Nat × Int := getN 0 0 l
def putT (s : List UInt8) : List UInt8 := putI s.length ++ s
def getT (l : List UInt8) : List UInt8 × Nat × Int :=
  let g := getI l
  if g.2.2 ≠ 0 then ([], 0, g.2.2)
  else if g.1 < 0 ∨ 1048576 < g.1 then ([], 0, 1)
  else if (l.length - g.2.1 : Nat) < g.1.toNat then ([], 0, 2)
  else ((l.drop g.2.1).take g.1.toNat, g.2.1 + g.1.toNat, 0)
theorem zig_lt {n : Int} (h0 : -9223372036854775808 ≤ n) (h1 : n ≤ 9223372036854775807) : zig n < 18446744073709551616 := by
  unfold zig; split <;> omega
theorem unzig_zig (n : Int) : unzig (zig n) = n := by
  unfold unzig zig; split <;> split <;> omega
theorem putN_length_le : ∀ f u, (putN f u).length ≤ f
  | 0, _ => by simp [putN]
  | f + 1, u => by
    simp only [putN]
    split
    · simp
    · have := putN_length_le f (u / 128)
      simp; omega
theorem putI_length_le (n : Int) : (putI n).length ≤ 10 := putN_length_le 10 _
theorem putI_ne_nil (n : Int) : putI n ≠ [] := by
  unfold putI putU
  simp only [putN]
  split <;> simp
end Ph

set_option linter.unusedVariables false
namespace Ph
theorem u8n (x : Nat) (h : x < 256) : (x.toUInt8).toNat = x := by simp; omega
theorem putN_last (f u : Nat) (h : u < 128) : putN (f + 1) u = [u.toUInt8] := by simp [putN, h]
theorem putN_more (f u : Nat) (h : ¬ u < 128) : putN (f + 1) u = (u % 128 + 128).toUInt8 :: putN f (u / 128) := by simp [putN, h]
theorem pow_step (i : Nat) : 128 ^ (i + 1) = 128 ^ i * 128 := Nat.pow_succ 128 i
theorem getN_putN : ∀ (f i a u : Nat) (t : List UInt8), u < 128 ^ f → i + f ≤ 10 → 1 ≤ f → (1 ≤ i → 1 ≤ u) → (i = 9 → u ≤ 1) → (∀ j, i + j = 9 → u / 128 ^ j ≤ 1) →
    getN i a (putN f u ++ t) = (unzig (a + u * 128 ^ i), i + (putN f u).length, 0)
  | 0, _, _, _, _, _, _, h, _, _, _ => by omega
  | f + 1, i, a, u, t, hu, hf, _, h1, h9, hj => by
    by_cases hl : u < 128
    · rw [putN_last f u hl]
      have hb := u8n u (by omega)
      simp only [List.cons_append, List.nil_append, getN, hb, List.length_cons, List.length_nil]
      rw [if_neg (by omega), if_neg (by omega), if_neg (by omega)]
      have : u % 128 = u := by omega
      rw [this]
    · rw [putN_more f u hl]
      have hb := u8n (u % 128 + 128) (by omega)
      have hne : i ≠ 9 := fun e => by have := h9 e; omega
      have hf1 : 1 ≤ f := by
        rcases Nat.eq_zero_or_pos f with h0 | h0
        · subst h0; simp at hu; omega
        · exact h0
      simp only [List.cons_append, getN, hb, List.length_cons]
      rw [if_neg (by omega), if_pos (by omega)]
      have hd : u / 128 < 128 ^ f := by
        rw [pow_step] at hu
        omega
      rw [getN_putN f (i + 1) _ (u / 128) t hd (by omega) hf1 (fun _ => by omega) (fun e => by
          have := hj 1 (by omega)
          simpa using this) (fun j e => by
          have := hj (j + 1) (by omega)
          rw [Nat.div_div_eq_div_mul, Nat.mul_comm]
          rw [pow_step] at this
          exact this)]
      have e1 : (u % 128 + 128) % 128 = u % 128 := by omega
      rw [e1, pow_step]
      congr 1
      · congr 1
        have : u / 128 * (128 ^ i * 128) = 128 * (u / 128) * 128 ^ i := by
          rw [Nat.mul_comm (128 ^ i) 128, ← Nat.mul_assoc, Nat.mul_comm (u / 128) 128]
        rw [this]
        have h2 : u = u % 128 + 128 * (u / 128) := by omega
        have h3 : u * 128 ^ i = (u % 128 + 128 * (u / 128)) * 128 ^ i := by rw [← h2]
        rw [h3, Nat.add_mul]
        omega
      · congr 1
        omega
theorem zig_small {n : Int} (h0 : -9223372036854775808 ≤ n) (h1 : n ≤ 9223372036854775807) : zig n < 128 ^ 10 ∧ ∀ j, 0 + j = 9 → zig n / 128 ^ j ≤ 1 := by
  have h := zig_lt h0 h1
  have e10 : (128 : Nat) ^ 10 = 1180591620717411303424 := by decide
  have e9 : (128 : Nat) ^ 9 = 9223372036854775808 := by decide
  refine ⟨by rw [e10]; omega, fun j hj => ?_⟩
  obtain rfl : j = 9 := by omega
  rw [e9]
  omega
theorem getI_putI (n : Int) (t : List UInt8) (h0 : -9223372036854775808 ≤ n) (h1 : n ≤ 9223372036854775807) : getI (putI n ++ t) = (n, (putI n).length, 0) := by
  obtain ⟨a, b⟩ := zig_small h0 h1
  unfold getI putI putU
  rw [getN_putN 10 0 0 (zig n) t a (by omega) (by omega) (fun h => by omega) (fun h => by omega) b]
  simp [unzig_zig]
theorem getT_putT (s t : List UInt8) (h : s.length ≤ 1048576) : getT (putT s ++ t) = (s, (putT s).length, 0) := by
  have g := getI_putI s.length (s ++ t) (by omega) (by omega)
  unfold putT getT
  rw [List.append_assoc, g]
  simp only [List.length_append]
  rw [if_neg (by omega), if_neg (by omega), if_neg (by simp)]
  simp
theorem getN_le : ∀ (l : List UInt8) (i u : Nat), (getN i u l).2.1 ≤ i + l.length ∧ ((getN i u l).2.2 = 0 ∨ (getN i u l).2.2 = 1 ∨ (getN i u l).2.2 = 2) ∧ ((getN i u l).2.2 ≠ 0 → (getN i u l).1 = 0 ∧ (getN i u l).2.1 = 0)
  | [], i, u => by simp [getN]
  | c :: t, i, u => by
    simp only [getN]
    split
    · simp
    · split
      · have := getN_le t (i + 1) (u + c.toNat % 128 * 128 ^ i)
        simp only [List.length_cons]
        exact ⟨by omega, this.2⟩
      · split
        · simp
        · simp
theorem getI_le (l : List UInt8) : (getI l).2.1 ≤ l.length := by
  have := (getN_le l 0 0).1
  unfold getI; omega
end Ph

set_option linter.unusedVariables false
namespace Ph
open Go
theorem xor_max (x : Nat) (h : x < 18446744073709551616) : bits .xor .u64 IntKind.u64.max (x : Int) = ((18446744073709551615 - x : Nat) : Int) := by
  show IntKind.u64.wrap ((BitVec.ofInt 64 IntKind.u64.max ^^^ BitVec.ofInt 64 (x : Int)).toNat : Int) = _
  have h1 : BitVec.ofInt 64 IntKind.u64.max = BitVec.allOnes 64 := by decide
  rw [h1, BitVec.allOnes_xor, BitVec.toNat_not, ofInt_u64 x h]
  rw [IntKind.wrap_u64]
  omega
theorem zig_neg (n : Int) (h0 : -9223372036854775808 ≤ n) (h1 : n < 0) : bits .xor .u64 IntKind.u64.max (IntKind.u64.wrap (IntKind.u64.wrap n * 2)) = (zig n : Int) := by
  have e : IntKind.u64.wrap (IntKind.u64.wrap n * 2) = (((2 * n + 18446744073709551616).toNat : Nat) : Int) := by
    rw [IntKind.wrap_u64, IntKind.wrap_u64]; omega
  rw [e, xor_max _ (by omega)]
  unfold zig
  rw [if_neg (by omega)]
  omega
theorem zig_pos (n : Int) (h0 : 0 ≤ n) : n * 2 = (zig n : Int) := by
  unfold zig
  rw [if_pos h0]; omega
set_option maxRecDepth 100000 in
theorem or128 : ∀ X : Fin 256, bits .or .u8 ((X.val : Nat) : Int) 128 = ((X.val % 128 + 128 : Nat) : Int) := by decide
set_option maxRecDepth 100000 in
theorem and127 : ∀ X : Fin 256, bits .and .u8 ((X.val : Nat) : Int) 127 = ((X.val % 128 : Nat) : Int) := by decide
theorem or128_at (x : Nat) (h : x < 256) : bits .or .u8 (x : Int) 128 = ((x % 128 + 128 : Nat) : Int) := or128 ⟨x, h⟩
theorem and127_at (x : Nat) (h : x < 256) : bits .and .u8 (x : Int) 127 = ((x % 128 : Nat) : Int) := and127 ⟨x, h⟩
theorem pow128 (k : Nat) : (128 : Nat) ^ k = 2 ^ (7 * k) := by
  rw [Nat.pow_mul]
theorem or_seven (x c k : Nat) (hx : x < 128 ^ k) (hc : c < 256) (hs : c % 128 * 128 ^ k < 18446744073709551616) (hk : k ≤ 9) :
    bits .or .u64 (x : Int) (IntKind.u64.wrap (IntKind.u64.wrap (bits .and .u8 (c : Int) 127) * 2 ^ (7 * k))) = ((x + c % 128 * 128 ^ k : Nat) : Int) := by
  have e1 : IntKind.u64.wrap (bits .and .u8 (c : Int) 127) = ((c % 128 : Nat) : Int) := by
    rw [and127_at c hc, IntKind.wrap_u64]; omega
  have e2 : ((c % 128 : Nat) : Int) * 2 ^ (7 * k) = ((c % 128 * 128 ^ k : Nat) : Int) := by
    rw [pow128]; simp
  have e3 : IntKind.u64.wrap (((c % 128 : Nat) : Int) * 2 ^ (7 * k)) = ((c % 128 * 128 ^ k : Nat) : Int) := by
    rw [e2, IntKind.wrap_u64]; omega
  have h9 : (128 : Nat) ^ k ≤ 128 ^ 9 := Nat.pow_le_pow_right (by omega) hk
  have e9 : (128 : Nat) ^ 9 = 9223372036854775808 := by decide
  rw [e1, e3, bits_or_u64_nat x _ (by omega) hs]
  congr 1
  rw [pow128] at hx ⊢
  rw [Nat.or_comm, Nat.mul_comm, ← Nat.two_pow_add_eq_or_of_lt hx]
  omega
theorem or_last (x c : Nat) (hx : x < 128 ^ 9) (hc : c ≤ 1) :
    bits .or .u64 (x : Int) (IntKind.u64.wrap (IntKind.u64.wrap (bits .and .u8 (c : Int) 127) * 9223372036854775808)) = ((x + c % 128 * 128 ^ 9 : Nat) : Int) := by
  have e9 : (128 : Nat) ^ 9 = 9223372036854775808 := by decide
  have h := or_seven x c 9 hx (by omega) (by rw [e9]; omega) (by omega)
  have e2 : (2 : Int) ^ (7 * 9) = 9223372036854775808 := by decide
  rw [e2] at h
  exact h
theorem sum_small (x c k : Nat) (hx : x < 128 ^ k) (hk : k ≤ 8) (hc : c < 256) : c % 128 * 128 ^ k < 18446744073709551616 ∧ x + c % 128 * 128 ^ k < 128 ^ (k + 1) := by
  have h8 : (128 : Nat) ^ k ≤ 128 ^ 8 := Nat.pow_le_pow_right (by omega) hk
  have e8 : (128 : Nat) ^ 8 = 72057594037927936 := by decide
  have h1 : c % 128 * 128 ^ k ≤ 127 * 128 ^ k := Nat.mul_le_mul_right _ (by omega)
  rw [Nat.pow_succ]
  omega
theorem unzig_even (y : Nat) (h : y % 2 = 0) : unzig y = ((y / 2 : Nat) : Int) := by unfold unzig; rw [if_neg (by omega)]
theorem unzig_odd (y : Nat) (h : y % 2 = 1) : unzig y = -1 - ((y / 2 : Nat) : Int) := by unfold unzig; rw [if_pos h]; omega
theorem getN_end (k x : Nat) : getN k x [] = (0, 0, 2) := rfl
theorem getN_big (k x : Nat) (c : UInt8) (t : List UInt8) (h : k = 9) (hc : 1 < c.toNat) : getN k x (c :: t) = (0, 0, 1) := by simp only [getN]; rw [if_pos ⟨h, hc⟩]
theorem getN_more (k x : Nat) (c : UInt8) (t : List UInt8) (h : k ≠ 9) (hc : 128 ≤ c.toNat) : getN k x (c :: t) = getN (k + 1) (x + c.toNat % 128 * 128 ^ k) t := by simp only [getN]; rw [if_neg (by omega), if_pos hc]
theorem getN_zero (k x : Nat) (c : UInt8) (t : List UInt8) (h : 0 < k) (hc : c.toNat = 0) : getN k x (c :: t) = (0, 0, 1) := by simp only [getN]; rw [if_neg (by omega), if_neg (by omega), if_pos ⟨h, hc⟩]
theorem getN_last (k x : Nat) (c : UInt8) (t : List UInt8) (h9 : ¬ (k = 9 ∧ 1 < c.toNat)) (hc : c.toNat < 128) (hz : ¬ (0 < k ∧ c.toNat = 0)) : getN k x (c :: t) = (unzig (x + c.toNat % 128 * 128 ^ k), k + 1, 0) := by simp only [getN]; rw [if_neg h9, if_neg (by omega), if_neg hz]
theorem putN_split (f u : Nat) (h : ¬ u < 128) (hu : u < 128 ^ f) : ∃ g, f = g + 1 ∧ 1 ≤ g ∧ u / 128 < 128 ^ g ∧ putN f u = (u % 128 + 128).toUInt8 :: putN g (u / 128) := by
  obtain ⟨g, rfl⟩ : ∃ g, f = g + 1 := by
    cases f with
    | zero => simp at hu; omega
    | succ g => exact ⟨g, rfl⟩
  refine ⟨g, rfl, ?_, ?_, putN_more g u h⟩
  · rcases Nat.eq_zero_or_pos g with h0 | h0
    · subst h0; simp at hu; omega
    · exact h0
  · rw [Nat.pow_succ] at hu; omega
end Ph

set_option linter.unusedVariables false
set_option maxRecDepth 10000
-- pieces
namespace Go.Proofs.YtmalklakaalaoaaGreatDoor.Sw
open Go.RowKit Go.Sx
theorem u8w (x : Nat) (h : x < 128) : IntKind.u8.wrap (x : Int) = ((x.toUInt8).toNat : Int) := by
  rw [IntKind.wrap_u8, Ph.u8n x (by omega)]; omega
theorem u8o (x : Nat) : bits .or .u8 (IntKind.u8.wrap (x : Int)) 128 = (((x % 128 + 128).toUInt8).toNat : Int) := by
  have e : IntKind.u8.wrap (x : Int) = ((x % 256 : Nat) : Int) := by rw [IntKind.wrap_u8]; omega
  rw [e, Ph.or128_at _ (by omega), Ph.u8n _ (by omega)]; omega
structure PutS where
  v : Value
  acc : List UInt8
  f : Nat
  x : Nat
theorem u8r (x : Nat) : IntKind.u8.wrap (IntKind.u64.wrap ((x : Int).tmod 128 + 128)) = (((x % 128 + 128).toUInt8).toNat : Int) := by
  rw [show (x : Int).tmod 128 = ((x % 128 : Nat) : Int) from by rw [Int.tmod_eq_emod_of_nonneg (by omega)]; omega, IntKind.wrap_u8, IntKind.wrap_u64, Ph.u8n _ (by omega)]; omega
theorem quo7 (x : Nat) (h : x < 18446744073709551616) : IntKind.u64.wrap ((x : Int).tdiv 128) = ((x / 128 : Nat) : Int) := by
  rw [show (x : Int).tdiv 128 = ((x / 128 : Nat) : Int) from by rw [Int.tdiv_eq_ediv_of_nonneg (by omega)]; omega, IntKind.wrap_u64]; omega
theorem shr7 (x : Nat) : (x : Int).fdiv (2 ^ 7) = ((x / 128 : Nat) : Int) := by
  rw [Int.fdiv_eq_ediv_of_nonneg _ (by decide)]; omega
set_option maxHeartbeats 4000000 in
theorem num_Put (w0 W : World) (v : Value) (l : List UInt8) (n : Int) (R : List Res) (h0 : -9223372036854775808 ≤ n) (h1 : n ≤ 9223372036854775807) (hl : l.length ≤ 1000000000) (hw : Has 0 w0 W (OwnB 5 v l :: R)) :
    Calls Tryz.prog 61 ⟨[v, .int .i64 n]⟩ W fun e W' => ∃ ad cap, e = .returned (.slice ad (l ++ Ph.putI n).length cap) ∧ Has 0 w0 W' (OwnB 5 (.slice ad (l ++ Ph.putI n).length cap) (l ++ Ph.putI n) :: R) := by
  refine enter Tryz.func61 Tryz.ntmps61 rfl rfl fun a hs => ?_
  have hz := (Ph.zig_small h0 h1).1
  repeat (first | (refine sxv hs hw ?_; clear hs; intro a hs) | refine sxc hs ?_ | (refine sxa hs hw ?_; clear hs hw; intro a b W hw hs) | (refine sxs hs hw ?_; clear hs hw; intro W hs hw))
  refine merge (M := fun a W => Slots a 28 [(0, v), (5, .int .u64 (Ph.zig n))] ∧ Has 0 w0 W (OwnB 5 v l :: R)) ?_ ?_
  · refine cd_split hs (kt := fun hc => ?_) (kf := fun hc => ?_)
    · have hn : n < 0 := by simpa using hc
      repeat (first | (refine sxv hs hw ?_; clear hs; intro a hs) | refine sxc hs ?_ | (refine sxa hs hw ?_; clear hs hw; intro a b W hw hs) | (refine sxs hs hw ?_; clear hs hw; intro W hs hw))
      exact ⟨hs.of ⟨rfl, int_eq (Ph.zig_neg n h0 hn), trivial⟩, hw⟩
    · have hn : 0 ≤ n := by simpa using hc
      repeat (first | (refine sxv hs hw ?_; clear hs; intro a hs) | refine sxc hs ?_ | (refine sxa hs hw ?_; clear hs hw; intro a b W hw hs) | (refine sxs hs hw ?_; clear hs hw; intro W hs hw))
      have e : IntKind.u64.wrap (IntKind.u64.wrap n * 2 ^ min 1 IntKind.u64.bits) = (Ph.zig n : Int) := by
        rw [← Ph.zig_pos n hn, IntKind.wrap_u64, IntKind.wrap_u64]
        show (n % 18446744073709551616 * 2 % 18446744073709551616 : Int) = _
        omega
      exact ⟨hs.of ⟨rfl, int_eq e, trivial⟩, hw⟩
  clear hs hw
  rintro a W ⟨hs, hw⟩
  repeat (first | (refine sxv hs hw ?_; clear hs; intro a hs) | refine sxc hs ?_ | (refine sxa hs hw ?_; clear hs hw; intro a b W hw hs) | (refine sxs hs hw ?_; clear hs hw; intro W hs hw))
  refine st_loop (σ := PutS) (fun s => [(0, s.v), (5, .int .u64 s.x)]) (fun s => OwnB 5 s.v s.acc :: R) (fun s => s.x < 128 ^ s.f ∧ 1 ≤ s.f ∧ s.f ≤ 10 ∧ s.acc.length + s.f ≤ l.length + 10 ∧ s.acc ++ Ph.putN s.f s.x = l ++ Ph.putI n) (fun s => s.x) ⟨v, l, 10, Ph.zig n⟩ ⟨hz, Nat.le_add_left 1 9, Nat.le_refl 10, by simp, rfl⟩ hs ⟨rfl, rfl, trivial⟩ hw ?_
  clear hs hw
  rintro ⟨v, acc, f, x⟩ a W ⟨hx, hf1, hf2, hal, he⟩ hs hw
  simp only at hx hf1 hf2 hal he hs hw
  repeat (first | (refine sxv hs hw ?_; clear hs; intro a hs) | refine sxc hs ?_ | (refine sxa hs hw ?_; clear hs hw; intro a b W hw hs) | (refine sxs hs hw ?_; clear hs hw; intro W hs hw))
  refine cd_split hs (kt := fun hc => ?_) (kf := fun hc => ?_)
  · have hx' : ¬ x < 128 := by simp at hc; omega
    obtain ⟨g, rfl, hg1, hxg, hpn⟩ := Ph.putN_split f x hx' hx
    repeat (first | (refine sxv hs hw ?_; clear hs; intro a hs) | refine sxc hs ?_ | (refine sxa hs hw ?_; clear hs hw; intro a b W hw hs) | (refine sxs hs hw ?_; clear hs hw; intro W hs hw))
    refine st_append_lit hs hw (k := acc.length) (h63 := by omega) (hb := by omega) (c := ?_)
    clear hs hw; intro a ad cap W hs hw
    repeat (first | (refine sxv hs hw ?_; clear hs; intro a hs) | refine sxc hs ?_ | (refine sxa hs hw ?_; clear hs hw; intro a b W hw hs) | (refine sxs hs hw ?_; clear hs hw; intro W hs hw))
    have hw' := hw.sub (List.Sublist.cons _ (List.Sublist.refl _))
    rw [own_app (l := acc) (m := [(x % 128 + 128).toUInt8]) (by simp) (by rw [bys_app]; exact congrArg (fun u => bys acc ++ [Value.int .u8 u]) (u8o x))] at hw'
    refine st_again ⟨_, acc ++ [(x % 128 + 128).toUInt8], g, x / 128⟩ hs hw' ⟨hxg, hg1, by show g ≤ 10; omega, by simp; omega, ?_⟩ (by show x / 128 < x; omega) ⟨rfl, int_eq (shr7 x), trivial⟩
    rw [← he, hpn]
    simp
  · have hx' : x < 128 := by simp at hc; omega
    obtain ⟨g, rfl⟩ : ∃ g, f = g + 1 := ⟨f - 1, by omega⟩
    repeat (first | (refine sxv hs hw ?_; clear hs; intro a hs) | refine sxc hs ?_ | (refine sxa hs hw ?_; clear hs hw; intro a b W hw hs) | (refine sxs hs hw ?_; clear hs hw; intro W hs hw))
    refine st_append_lit hs hw (k := acc.length) (h63 := by omega) (hb := by omega) (c := ?_)
    clear hs hw; intro a ad cap W hs hw
    repeat (first | (refine sxv hs hw ?_; clear hs; intro a hs) | refine sxc hs ?_ | (refine sxa hs hw ?_; clear hs hw; intro a b W hw hs) | (refine sxs hs hw ?_; clear hs hw; intro W hs hw))
    have hw' := hw.sub (List.Sublist.cons _ (List.Sublist.refl _))
    have e1 : acc ++ [x.toUInt8] = l ++ Ph.putI n := by rw [← he, Ph.putN_last g x hx']
    have e2 : (l ++ Ph.putI n).length = acc.length + 1 := by rw [← e1]; simp
    refine rt1 hs rfl rfl ⟨ad, cap, by rw [e2], ?_⟩
    rw [own_app (l := acc) (m := [x.toUInt8]) (by simp) (by rw [bys_app]; exact congrArg (fun u => bys acc ++ [Value.int .u8 u]) (u8w x hx'))] at hw'
    rw [e2, ← e1]
    exact hw'
theorem putT_eq (s : ByteArray) : Ph.putI (s.size : Int) ++ s.data.toList = Ph.putT s.data.toList := by
  unfold Ph.putT
  rw [show (s.data.toList.length : Int) = (s.size : Int) from by rw [Array.length_toList]; rfl]
theorem src_str {P : Program} {T : TypeId} [t : StrTy P T] (s : ByteArray) (W : World) : Src P 1 T (.string s) s.data.toList.length (bys s.data.toList) W := by
  have := src_string (P := P) (S := T) (W := W) s
  rwa [show s.size = s.data.toList.length from by rw [Array.length_toList]; rfl] at this
set_option maxHeartbeats 4000000 in
theorem num_PutText (w0 W : World) (v : Value) (l : List UInt8) (s : ByteArray) (R : List Res) (hs0 : s.size ≤ 1000000000) (hl : l.length ≤ 1000000000) (hw : Has 0 w0 W (OwnB 5 v l :: R)) :
    Calls Tryz.prog 62 ⟨[v, .string s]⟩ W fun e W' => ∃ ad cap, e = .returned (.slice ad (l ++ Ph.putT s.data.toList).length cap) ∧ Has 0 w0 W' (OwnB 5 (.slice ad (l ++ Ph.putT s.data.toList).length cap) (l ++ Ph.putT s.data.toList) :: R) := by
  have e := putT_eq s
  have hd : s.data.toList.length = s.size := by rw [Array.length_toList]; rfl
  have hp := Ph.putI_length_le (s.size : Int)
  refine enter Tryz.func62 Tryz.ntmps62 rfl rfl fun a hs => ?_
  repeat (first | (refine sxv hs hw ?_; clear hs; intro a hs) | refine sxc hs ?_ | (refine sxa hs hw ?_; clear hs hw; intro a b W hw hs) | (refine sxs hs hw ?_; clear hs hw; intro W hs hw))
  refine st_call hs (hc := num_Put w0 W v l s.size R (by omega) (by omega) hl hw) (k := ?_); rintro e0 W1 ⟨ad, cap, rfl, hw1⟩; refine ⟨_, rfl, ?_⟩; clear hs hw; intro a hs; have hw := hw1; clear hw1
  repeat (first | (refine sxv hs hw ?_; clear hs; intro a hs) | refine sxc hs ?_ | (refine sxa hs hw ?_; clear hs hw; intro a b W hw hs) | (refine sxs hs hw ?_; clear hs hw; intro W hs hw))
  refine st_append_b hs hw (l := l ++ Ph.putI (s.size : Int)) (m := s.data.toList) (hr := src_str s W1) (hb := by rw [List.length_append]; omega) (c := ?_)
  clear hs hw; intro a ad cap W hs hw
  repeat (first | (refine sxv hs hw ?_; clear hs; intro a hs) | refine sxc hs ?_ | (refine sxa hs hw ?_; clear hs hw; intro a b W hw hs) | (refine sxs hs hw ?_; clear hs hw; intro W hs hw))
  rw [List.append_assoc, e] at hs hw
  exact rt1 hs rfl rfl ⟨ad, cap, rfl, hw⟩
set_option maxHeartbeats 4000000 in
theorem ref_Put (w0 W : World) (n : Int) (R : List Res) (h0 : -9223372036854775808 ≤ n) (h1 : n ≤ 9223372036854775807) (hw : Has 0 w0 W R) :
    Calls Tryz.prog 74 ⟨[.int .i64 n]⟩ W fun e W' => ∃ ad cap, e = .returned (.slice ad (Ph.putI n).length cap) ∧ Has 0 w0 W' (OwnB 5 (.slice ad (Ph.putI n).length cap) (Ph.putI n) :: R) := by
  refine enter Tryz.func74 Tryz.ntmps74 rfl rfl fun a hs => ?_
  have hz := (Ph.zig_small h0 h1).1
  repeat (first | (refine sxv hs hw ?_; clear hs; intro a hs) | refine sxc hs ?_ | (refine sxa hs hw ?_; clear hs hw; intro a b W hw hs) | (refine sxs hs hw ?_; clear hs hw; intro W hs hw))
  refine merge (M := fun a W => Slots a 28 [(3, .int .u64 (Ph.zig n))] ∧ Has 0 w0 W R) ?_ ?_
  · refine cd_split hs (kt := fun hc => ?_) (kf := fun hc => ?_)
    · have hn : n < 0 := by simpa using hc
      repeat (first | (refine sxv hs hw ?_; clear hs; intro a hs) | refine sxc hs ?_ | (refine sxa hs hw ?_; clear hs hw; intro a b W hw hs) | (refine sxs hs hw ?_; clear hs hw; intro W hs hw))
      exact ⟨hs.of ⟨int_eq (Ph.zig_neg n h0 hn), trivial⟩, hw⟩
    · have hn : 0 ≤ n := by simpa using hc
      repeat (first | (refine sxv hs hw ?_; clear hs; intro a hs) | refine sxc hs ?_ | (refine sxa hs hw ?_; clear hs hw; intro a b W hw hs) | (refine sxs hs hw ?_; clear hs hw; intro W hs hw))
      have e : IntKind.u64.wrap (IntKind.u64.wrap n * 2) = (Ph.zig n : Int) := by
        rw [← Ph.zig_pos n hn, IntKind.wrap_u64, IntKind.wrap_u64]
        omega
      exact ⟨hs.of ⟨int_eq e, trivial⟩, hw⟩
  clear hs hw
  rintro a W ⟨hs, hw⟩
  repeat (first | (refine sxv hs hw ?_; clear hs; intro a hs) | refine sxc hs ?_ | (refine sxa hs hw ?_; clear hs hw; intro a b W hw hs) | (refine sxs hs hw ?_; clear hs hw; intro W hs hw))
  have hw := hw.nilB 5
  refine st_loop (σ := PutS) (fun s => [(4, s.v), (3, .int .u64 s.x)]) (fun s => OwnB 5 s.v s.acc :: R) (fun s => s.x < 128 ^ s.f ∧ 1 ≤ s.f ∧ s.f ≤ 10 ∧ s.acc.length + s.f ≤ 10 ∧ s.x < 18446744073709551616 ∧ s.acc ++ Ph.putN s.f s.x = Ph.putI n) (fun s => s.x) ⟨.slice none 0 0, [], 10, Ph.zig n⟩ ⟨hz, Nat.le_add_left 1 9, Nat.le_refl 10, by simp, Ph.zig_lt h0 h1, rfl⟩ hs ⟨rfl, rfl, trivial⟩ hw ?_
  clear hs hw
  rintro ⟨v, acc, f, x⟩ a W ⟨hx, hf1, hf2, hal, hxl, he⟩ hs hw
  simp only at hx hf1 hf2 hal hxl he hs hw
  repeat (first | (refine sxv hs hw ?_; clear hs; intro a hs) | refine sxc hs ?_ | (refine sxa hs hw ?_; clear hs hw; intro a b W hw hs) | (refine sxs hs hw ?_; clear hs hw; intro W hs hw))
  refine cd_split hs (kt := fun hc => ?_) (kf := fun hc => ?_)
  · have hx' : ¬ x < 128 := by simp at hc; omega
    obtain ⟨g, rfl, hg1, hxg, hpn⟩ := Ph.putN_split f x hx' hx
    repeat (first | (refine sxv hs hw ?_; clear hs; intro a hs) | refine sxc hs ?_ | (refine sxa hs hw ?_; clear hs hw; intro a b W hw hs) | (refine sxs hs hw ?_; clear hs hw; intro W hs hw))
    refine st_append_lit hs hw (k := acc.length) (h63 := by omega) (hb := by omega) (c := ?_)
    clear hs hw; intro a ad cap W hs hw
    repeat (first | (refine sxv hs hw ?_; clear hs; intro a hs) | refine sxc hs ?_ | (refine sxa hs hw ?_; clear hs hw; intro a b W hw hs) | (refine sxs hs hw ?_; clear hs hw; intro W hs hw))
    have hw' := hw.sub (List.Sublist.cons _ (List.Sublist.refl _))
    rw [own_app (l := acc) (m := [(x % 128 + 128).toUInt8]) (by simp) (by rw [bys_app]; exact congrArg (fun u => bys acc ++ [Value.int .u8 u]) (u8r x))] at hw'
    refine st_again ⟨_, acc ++ [(x % 128 + 128).toUInt8], g, x / 128⟩ hs hw' ⟨hxg, hg1, by show g ≤ 10; omega, by simp; omega, by show x / 128 < _; omega, ?_⟩ (by show x / 128 < x; omega) ⟨rfl, int_eq (quo7 x hxl), trivial⟩
    rw [← he, hpn]
    simp
  · have hx' : x < 128 := by simp at hc; omega
    obtain ⟨g, rfl⟩ : ∃ g, f = g + 1 := ⟨f - 1, by omega⟩
    repeat (first | (refine sxv hs hw ?_; clear hs; intro a hs) | refine sxc hs ?_ | (refine sxa hs hw ?_; clear hs hw; intro a b W hw hs) | (refine sxs hs hw ?_; clear hs hw; intro W hs hw))
    refine st_append_lit hs hw (k := acc.length) (h63 := by omega) (hb := by omega) (c := ?_)
    clear hs hw; intro a ad cap W hs hw
    repeat (first | (refine sxv hs hw ?_; clear hs; intro a hs) | refine sxc hs ?_ | (refine sxa hs hw ?_; clear hs hw; intro a b W hw hs) | (refine sxs hs hw ?_; clear hs hw; intro W hs hw))
    have hw' := hw.sub (List.Sublist.cons _ (List.Sublist.refl _))
    have e1 : acc ++ [x.toUInt8] = Ph.putI n := by rw [← he, Ph.putN_last g x hx']
    have e2 : (Ph.putI n).length = acc.length + 1 := by rw [← e1]; simp
    refine rt1 hs rfl rfl ⟨ad, cap, by rw [e2], ?_⟩
    rw [own_app (l := acc) (m := [x.toUInt8]) (by simp) (by rw [bys_app]; exact congrArg (fun u => bys acc ++ [Value.int .u8 u]) (u8w x hx'))] at hw'
    rw [e2, ← e1]
    exact hw'
set_option maxHeartbeats 4000000 in
theorem ref_PutText (w0 W : World) (s : ByteArray) (R : List Res) (hs0 : s.size ≤ 1000000000) (hw : Has 0 w0 W R) :
    Calls Tryz.prog 75 ⟨[.string s]⟩ W fun e W' => ∃ ad cap, e = .returned (.slice ad (Ph.putT s.data.toList).length cap) ∧ Has 0 w0 W' (OwnB 5 (.slice ad (Ph.putT s.data.toList).length cap) (Ph.putT s.data.toList) :: R) := by
  have e := putT_eq s
  have hd : s.data.toList.length = s.size := by rw [Array.length_toList]; rfl
  have hp := Ph.putI_length_le (s.size : Int)
  refine enter Tryz.func75 Tryz.ntmps75 rfl rfl fun a hs => ?_
  repeat (first | (refine sxv hs hw ?_; clear hs; intro a hs) | refine sxc hs ?_ | (refine sxa hs hw ?_; clear hs hw; intro a b W hw hs) | (refine sxs hs hw ?_; clear hs hw; intro W hs hw))
  refine st_call hs (hc := ref_Put w0 W s.size R (by omega) (by omega) hw) (k := ?_); rintro e0 W1 ⟨ad, cap, rfl, hw1⟩; refine ⟨_, rfl, ?_⟩; clear hs hw; intro a hs; have hw := hw1; clear hw1
  repeat (first | (refine sxv hs hw ?_; clear hs; intro a hs) | refine sxc hs ?_ | (refine sxa hs hw ?_; clear hs hw; intro a b W hw hs) | (refine sxs hs hw ?_; clear hs hw; intro W hs hw))
  refine st_append_b hs hw (l := Ph.putI (s.size : Int)) (m := s.data.toList) (hr := src_str s W1) (hb := by omega) (c := ?_)
  clear hs hw; intro a ad cap W hs hw
  repeat (first | (refine sxv hs hw ?_; clear hs; intro a hs) | refine sxc hs ?_ | (refine sxa hs hw ?_; clear hs hw; intro a b W hw hs) | (refine sxs hs hw ?_; clear hs hw; intro W hs hw))
  rw [e] at hs hw
  exact rt1 hs rfl rfl ⟨ad, cap, rfl, hw⟩
def putR (k n : Int) (s : ByteArray) : List UInt8 := Ph.putI k ++ (if k = 1 then Ph.putI n else if k = 2 then Ph.putT s.data.toList else [])
set_option maxHeartbeats 4000000 in
theorem ref_PutRaw (w0 W : World) (k n : Int) (s : ByteArray) (R : List Res) (hk0 : -9223372036854775808 ≤ k) (hk1 : k ≤ 9223372036854775807) (h0 : -9223372036854775808 ≤ n) (h1 : n ≤ 9223372036854775807) (hs0 : s.size ≤ 1000000000) (hw : Has 0 w0 W R) :
    Calls Tryz.prog 86 ⟨[.agg #[.int .i64 k, .int .i64 n, .string s]]⟩ W fun e W' => ∃ ad cap, e = .returned (.slice ad (putR k n s).length cap) ∧ Has 0 w0 W' (OwnB 5 (.slice ad (putR k n s).length cap) (putR k n s) :: R) := by
  have hd : s.data.toList.length = s.size := by rw [Array.length_toList]; rfl
  have hpk := Ph.putI_length_le k
  have hpn := Ph.putI_length_le n
  have hpt : (Ph.putT s.data.toList).length ≤ 1000000010 := by unfold Ph.putT; rw [List.length_append]; have := Ph.putI_length_le s.data.toList.length; omega
  refine enter Tryz.func86 Tryz.ntmps86 rfl rfl fun a hs => ?_
  repeat (first | (refine sxv hs hw ?_; clear hs; intro a hs) | refine sxc hs ?_ | (refine sxa hs hw ?_; clear hs hw; intro a b W hw hs) | (refine sxs hs hw ?_; clear hs hw; intro W hs hw))
  refine st_call hs (hc := ref_Put w0 W k _ hk0 hk1 hw) (k := ?_); rintro e0 W1 ⟨ad, cap, rfl, hw1⟩; refine ⟨_, rfl, ?_⟩; clear hs hw; intro a hs; have hw := hw1; clear hw1
  repeat (first | (refine sxv hs hw ?_; clear hs; intro a hs) | refine sxc hs ?_ | (refine sxa hs hw ?_; clear hs hw; intro a b W hw hs) | (refine sxs hs hw ?_; clear hs hw; intro W hs hw))
  refine cd_split hs (kt := fun hc => ?_) (kf := fun hc => ?_)
  · have hk : k = 1 := by simpa using hc
    subst hk
    repeat (first | (refine sxv hs hw ?_; clear hs; intro a hs) | refine sxc hs ?_ | (refine sxa hs hw ?_; clear hs hw; intro a b W hw hs) | (refine sxs hs hw ?_; clear hs hw; intro W hs hw))
    refine st_call hs (hc := ref_Put w0 _ n _ h0 h1 hw) (k := ?_); rintro e0 W1 ⟨ad, cap, rfl, hw1⟩; refine ⟨_, rfl, ?_⟩; clear hs hw; intro a hs; have hw := hw1; clear hw1
    repeat (first | (refine sxv hs hw ?_; clear hs; intro a hs) | refine sxc hs ?_ | (refine sxa hs hw ?_; clear hs hw; intro a b W hw hs) | (refine sxs hs hw ?_; clear hs hw; intro W hs hw))
    refine st_append_b hs hw (l := Ph.putI 1) (m := Ph.putI n) (hr := src_rd (hw.rd_own (by repeat (first | exact In.hd | apply In.tl))) (bys_one _)) (hb := by omega) (c := ?_)
    clear hs hw; intro a ad cap W hs hw
    repeat (first | (refine sxv hs hw ?_; clear hs; intro a hs) | refine sxc hs ?_ | (refine sxa hs hw ?_; clear hs hw; intro a b W hw hs) | (refine sxs hs hw ?_; clear hs hw; intro W hs hw))
    have e : putR 1 n s = Ph.putI 1 ++ Ph.putI n := rfl
    rw [← e] at hs hw
    exact rt1 hs rfl rfl ⟨ad, cap, rfl, (hw.pick (by repeat (first | exact Pick.hd | apply Pick.tl))).sub (by repeat (first | exact List.Sublist.refl _ | apply List.Sublist.cons_cons | apply List.Sublist.cons))⟩
  · have hk : ¬ k = 1 := by simpa using hc
    repeat (first | (refine sxv hs hw ?_; clear hs; intro a hs) | refine sxc hs ?_ | (refine sxa hs hw ?_; clear hs hw; intro a b W hw hs) | (refine sxs hs hw ?_; clear hs hw; intro W hs hw))
    refine cd_split hs (kt := fun hc => ?_) (kf := fun hc => ?_)
    · have hk2 : k = 2 := by simpa using hc
      subst hk2
      repeat (first | (refine sxv hs hw ?_; clear hs; intro a hs) | refine sxc hs ?_ | (refine sxa hs hw ?_; clear hs hw; intro a b W hw hs) | (refine sxs hs hw ?_; clear hs hw; intro W hs hw))
      refine st_call hs (hc := ref_PutText w0 _ s _ hs0 hw) (k := ?_); rintro e0 W1 ⟨ad, cap, rfl, hw1⟩; refine ⟨_, rfl, ?_⟩; clear hs hw; intro a hs; have hw := hw1; clear hw1
      repeat (first | (refine sxv hs hw ?_; clear hs; intro a hs) | refine sxc hs ?_ | (refine sxa hs hw ?_; clear hs hw; intro a b W hw hs) | (refine sxs hs hw ?_; clear hs hw; intro W hs hw))
      refine st_append_b hs hw (l := Ph.putI 2) (m := Ph.putT s.data.toList) (hr := src_rd (hw.rd_own (by repeat (first | exact In.hd | apply In.tl))) (bys_one _)) (hb := by omega) (c := ?_)
      clear hs hw; intro a ad cap W hs hw
      repeat (first | (refine sxv hs hw ?_; clear hs; intro a hs) | refine sxc hs ?_ | (refine sxa hs hw ?_; clear hs hw; intro a b W hw hs) | (refine sxs hs hw ?_; clear hs hw; intro W hs hw))
      have e : putR 2 n s = Ph.putI 2 ++ Ph.putT s.data.toList := rfl
      rw [← e] at hs hw
      exact rt1 hs rfl rfl ⟨ad, cap, rfl, (hw.pick (by repeat (first | exact Pick.hd | apply Pick.tl))).sub (by repeat (first | exact List.Sublist.refl _ | apply List.Sublist.cons_cons | apply List.Sublist.cons))⟩
    · have hk2 : ¬ k = 2 := by simpa using hc
      repeat (first | (refine sxv hs hw ?_; clear hs; intro a hs) | refine sxc hs ?_ | (refine sxa hs hw ?_; clear hs hw; intro a b W hw hs) | (refine sxs hs hw ?_; clear hs hw; intro W hs hw))
      have e : putR k n s = Ph.putI k := by unfold putR; rw [if_neg hk, if_neg hk2, List.append_nil]
      rw [← e] at hs hw
      exact rt1 hs rfl rfl ⟨ad, cap, rfl, (hw.pick (by repeat (first | exact Pick.hd | apply Pick.tl))).sub (by repeat (first | exact List.Sublist.refl _ | apply List.Sublist.cons_cons | apply List.Sublist.cons))⟩
set_option maxHeartbeats 4000000 in
theorem value_Put (w0 W : World) (v : Value) (l : List UInt8) (k n : Int) (s : ByteArray) (R : List Res) (hk0 : -9223372036854775808 ≤ k) (hk1 : k ≤ 9223372036854775807) (h0 : -9223372036854775808 ≤ n) (h1 : n ≤ 9223372036854775807) (hs0 : s.size ≤ 1000000000) (hl : l.length ≤ 900000000) (hw : Has 0 w0 W (OwnB 5 v l :: R)) :
    Calls Tryz.prog 98 ⟨[v, .agg #[.int .i64 k, .int .i64 n, .string s]]⟩ W fun e W' => ∃ ad cap, e = .returned (.slice ad (l ++ putR k n s).length cap) ∧ Has 0 w0 W' (OwnB 5 (.slice ad (l ++ putR k n s).length cap) (l ++ putR k n s) :: R) := by
  have hpk := Ph.putI_length_le k
  refine enter Tryz.func98 Tryz.ntmps98 rfl rfl fun a hs => ?_
  repeat (first | (refine sxv hs hw ?_; clear hs; intro a hs) | refine sxc hs ?_ | (refine sxa hs hw ?_; clear hs hw; intro a b W hw hs) | (refine sxs hs hw ?_; clear hs hw; intro W hs hw))
  refine st_call hs (hc := num_Put w0 _ v l k _ hk0 hk1 (by omega) (hw.pick (by repeat (first | exact Pick.hd | apply Pick.tl)))) (k := ?_); rintro e0 W1 ⟨ad, cap, rfl, hw1⟩; refine ⟨_, rfl, ?_⟩; clear hs hw; intro a hs; have hw := hw1; clear hw1
  repeat (first | (refine sxv hs hw ?_; clear hs; intro a hs) | refine sxc hs ?_ | (refine sxa hs hw ?_; clear hs hw; intro a b W hw hs) | (refine sxs hs hw ?_; clear hs hw; intro W hs hw))
  refine cd_split hs (kt := fun hc => ?_) (kf := fun hc => ?_)
  · have hk : k = 1 := by simpa using hc
    subst hk
    repeat (first | (refine sxv hs hw ?_; clear hs; intro a hs) | refine sxc hs ?_ | (refine sxa hs hw ?_; clear hs hw; intro a b W hw hs) | (refine sxs hs hw ?_; clear hs hw; intro W hs hw))
    refine st_call hs (hc := num_Put w0 _ _ (l ++ Ph.putI 1) n _ h0 h1 (by rw [List.length_append]; omega) (hw.pick (by repeat (first | exact Pick.hd | apply Pick.tl)))) (k := ?_); rintro e0 W1 ⟨ad, cap, rfl, hw1⟩; refine ⟨_, rfl, ?_⟩; clear hs hw; intro a hs; have hw := hw1; clear hw1
    repeat (first | (refine sxv hs hw ?_; clear hs; intro a hs) | refine sxc hs ?_ | (refine sxa hs hw ?_; clear hs hw; intro a b W hw hs) | (refine sxs hs hw ?_; clear hs hw; intro W hs hw))
    have e : l ++ putR 1 n s = l ++ Ph.putI 1 ++ Ph.putI n := by rw [List.append_assoc]; rfl
    rw [← e] at hs hw
    exact rt1 hs rfl rfl ⟨ad, cap, rfl, (hw.pick (by repeat (first | exact Pick.hd | apply Pick.tl))).sub (by repeat (first | exact List.Sublist.refl _ | apply List.Sublist.cons_cons | apply List.Sublist.cons))⟩
  · have hk : ¬ k = 1 := by simpa using hc
    repeat (first | (refine sxv hs hw ?_; clear hs; intro a hs) | refine sxc hs ?_ | (refine sxa hs hw ?_; clear hs hw; intro a b W hw hs) | (refine sxs hs hw ?_; clear hs hw; intro W hs hw))
    refine cd_split hs (kt := fun hc => ?_) (kf := fun hc => ?_)
    · have hk2 : k = 2 := by simpa using hc
      subst hk2
      repeat (first | (refine sxv hs hw ?_; clear hs; intro a hs) | refine sxc hs ?_ | (refine sxa hs hw ?_; clear hs hw; intro a b W hw hs) | (refine sxs hs hw ?_; clear hs hw; intro W hs hw))
      refine st_call hs (hc := num_PutText w0 _ _ (l ++ Ph.putI 2) s _ hs0 (by rw [List.length_append]; omega) (hw.pick (by repeat (first | exact Pick.hd | apply Pick.tl)))) (k := ?_); rintro e0 W1 ⟨ad, cap, rfl, hw1⟩; refine ⟨_, rfl, ?_⟩; clear hs hw; intro a hs; have hw := hw1; clear hw1
      repeat (first | (refine sxv hs hw ?_; clear hs; intro a hs) | refine sxc hs ?_ | (refine sxa hs hw ?_; clear hs hw; intro a b W hw hs) | (refine sxs hs hw ?_; clear hs hw; intro W hs hw))
      have e : l ++ putR 2 n s = l ++ Ph.putI 2 ++ Ph.putT s.data.toList := by rw [List.append_assoc]; rfl
      rw [← e] at hs hw
      exact rt1 hs rfl rfl ⟨ad, cap, rfl, (hw.pick (by repeat (first | exact Pick.hd | apply Pick.tl))).sub (by repeat (first | exact List.Sublist.refl _ | apply List.Sublist.cons_cons | apply List.Sublist.cons))⟩
    · have hk2 : ¬ k = 2 := by simpa using hc
      repeat (first | (refine sxv hs hw ?_; clear hs; intro a hs) | refine sxc hs ?_ | (refine sxa hs hw ?_; clear hs hw; intro a b W hw hs) | (refine sxs hs hw ?_; clear hs hw; intro W hs hw))
      have e : l ++ putR k n s = l ++ Ph.putI k := by unfold putR; rw [if_neg hk, if_neg hk2, List.append_nil]
      rw [← e] at hs hw
      exact rt1 hs rfl rfl ⟨ad, cap, rfl, (hw.pick (by repeat (first | exact Pick.hd | apply Pick.tl))).sub (by repeat (first | exact List.Sublist.refl _ | apply List.Sublist.cons_cons | apply List.Sublist.cons))⟩
end Go.Proofs.YtmalklakaalaoaaGreatDoor.Sw
