/-
  The walk of the reference's decoder: it is the model's.
-/
import Derived.Test.YtfnmfofipcnojaaDoorRunesV
import Derived.Test.YtfnmfofipcnojaaDoorRefPlain
set_option linter.unusedVariables false
namespace Go.Proofs.YtfnmfofipcnojaaDoor
open Go.RowKit

theorem ret_dec {s : ByteArray} {a b : Int} (h1 : a = (Ph.decZ s.data.toList).1) (h2 : b = (Ph.decZ s.data.toList).2) : Ending.returned (.tuple #[.int .i32 a, .int .i64 b]) = .returned (.tuple #[.int .i32 (Ph.decZ s.data.toList).1, .int .i64 (Ph.decZ s.data.toList).2]) := by rw [h1, h2]
theorem ret_dec_err {s : ByteArray} (h : Ph.decZ s.data.toList = (65533, 1)) : Ending.returned (.tuple #[.int .i32 65533, .int .i64 1]) = .returned (.tuple #[.int .i32 (Ph.decZ s.data.toList).1, .int .i64 (Ph.decZ s.data.toList).2]) := by rw [h]; rfl

set_option maxRecDepth 100000 in
set_option maxHeartbeats 400000 in
theorem dec_short (s : ByteArray) (w : World) (hp : ¬ 0 < s.size) :
    Calls Tryd.prog 49 #[.string s] w fun e w' => e = .returned (.tuple #[.int .i32 (Ph.decZ s.data.toList).1, .int .i64 (Ph.decZ s.data.toList).2]) ∧ w = w' := by
  have ex := Ph.empty_yes hp
  have HD := Lib.hid (Ph.decZ_empty s hp)
  go_enter Tryd.func49, Tryd.ntmps49
  go_wp2
  go_ret2
  exact ⟨by rw [HD.out]; rfl, rfl⟩

set_option maxRecDepth 100000 in
set_option maxHeartbeats 400000 in
theorem dec_ascii (s : ByteArray) (w : World) (hp : 0 < s.size) (h0 : (s[0]'hp).toNat < 128) :
    Calls Tryd.prog 49 #[.string s] w fun e w' => e = .returned (.tuple #[.int .i32 (Ph.decZ s.data.toList).1, .int .i64 (Ph.decZ s.data.toList).2]) ∧ w = w' := by
  have ex := Ph.empty_no hp
  have HD : Hid (Ph.decZ s.data.toList = ((s[0]'hp).toNat, 1)) := by
    show _ = _
    rw [Ph.decZ_bt s hp, Ph.bt_at s 0 hp, Ph.d1 _ _ _ _ _ h0]
  have h0' : ((s[0]'hp).toNat : Int) < 128 := by omega
  have h0'' := (s[0]'hp).toNat_lt
  go_enter Tryd.func49, Tryd.ntmps49
  go_wp2
  go_ret2
  exact ⟨by rw [HD.out]; rfl, rfl⟩

set_option maxRecDepth 100000 in
set_option maxHeartbeats 400000 in
theorem dec_none (s : ByteArray) (w : World) (hp : 0 < s.size) (h0 : 128 ≤ (s[0]'hp).toNat ∧ (s[0]'hp).toNat < 192 ∨ 248 ≤ (s[0]'hp).toNat) :
    Calls Tryd.prog 49 #[.string s] w fun e w' => e = .returned (.tuple #[.int .i32 (Ph.decZ s.data.toList).1, .int .i64 (Ph.decZ s.data.toList).2]) ∧ w = w' := by
  have ex := Ph.empty_no hp
  have h0'' := (s[0]'hp).toNat_lt
  have HD : Hid (Ph.decZ s.data.toList = (65533, 1)) := by
    show _ = _
    rw [Ph.decZ_bt s hp, Ph.bt_at s 0 hp, Ph.d0 _ _ _ _ _ h0 (by omega)]
  rcases h0 with ⟨h1, h2⟩ | h1
  · have h1' : (128 : Int) ≤ ((s[0]'hp).toNat : Int) := by omega
    have h2' : ((s[0]'hp).toNat : Int) < 192 := by omega
    go_enter Tryd.func49, Tryd.ntmps49
    go_wp2
    go_ret2
    exact ⟨ret_dec_err HD.out, rfl⟩
  · have h1' : (248 : Int) ≤ ((s[0]'hp).toNat : Int) := by omega
    go_enter Tryd.func49, Tryd.ntmps49
    go_wp2
    go_ret2
    exact ⟨ret_dec_err HD.out, rfl⟩

set_option maxRecDepth 100000 in
set_option maxHeartbeats 800000 in
theorem dec_2 (s : ByteArray) (w : World) (hs : s.size ≤ 9223372036854775807) (hp : 0 < s.size) (h0 : 192 ≤ (s[0]'hp).toNat) (h1 : (s[0]'hp).toNat < 224) :
    Calls Tryd.prog 49 #[.string s] w fun e w' => e = .returned (.tuple #[.int .i32 (Ph.decZ s.data.toList).1, .int .i64 (Ph.decZ s.data.toList).2]) ∧ w = w' := by
  have ex := Ph.empty_no hp
  have hd := Ph.decZ_bt s hp
  have h0' : (192 : Int) ≤ ((s[0]'hp).toNat : Int) := by omega
  have h1' : ((s[0]'hp).toNat : Int) < 224 := by omega
  have HB : Hid (192 ≤ Ph.bt s 0 ∧ Ph.bt s 0 < 224) := by rw [Ph.bt_at s 0 hp]; exact ⟨h0, h1⟩
  have HZ : Hid (((s[0]'hp).toNat : Int) = Ph.bt s 0) := by show _ = _; rw [Ph.bt_at s 0 hp]
  by_cases hn : s.size < 2
  · have HD : Hid (Ph.decZ s.data.toList = (65533, 1)) := by
      show _ = _
      rw [hd, Ph.d2s _ _ _ _ _ HB.out hn]
    have hn' : (s.size : Int) < 2 := by omega
    clear hd
    go_enter Tryd.func49, Tryd.ntmps49
    go_wp2
    go_ret2
    exact ⟨ret_dec_err HD.out, rfl⟩
  · have hn' : (2 : Int) ≤ (s.size : Int) := by omega
    have HD := Lib.hid hd
    clear hd
    go_enter Tryd.func49, Tryd.ntmps49
    go_wp2
    go_loop [7, 8] (fun r i => ∃ k : Nat, 1 ≤ k ∧ k ≤ 2 ∧ i = .int .i64 k ∧ r = .int .i32 (Ph.Rk ((Ph.bt s 0 : Int) - 192) (Ph.bt s) k) ∧ Hid (∀ j, 1 ≤ j → j < k → 128 ≤ Ph.bt s j ∧ Ph.bt s j ≤ 191)) (fun _ i => 2 - (intOf i).toNat)
    case atStart => exact ⟨1, by omega, by omega, rfl, by rw [HZ.out]; rfl, fun j h1 h2 => by omega⟩
    case round =>
      obtain ⟨k, hk1, hk2, rfl, rfl, HJ⟩ := hrel
      have hR := Ph.Rk_bd ((Ph.bt s 0 : Int) - 192) (Ph.bt s) (by have := HB.out; omega) (by have := HB.out; omega) k (by omega) HJ.out
      obtain ⟨hR0, hR1⟩ := hR
      by_cases hk : k < 2
      · have hks : k < s.size := by omega
        have hbk := Ph.bt_at s k hks
        have hk' : (k : Int) < 2 := by omega
        have hbl := (s[k]'hks).toNat_lt
        have HK : Hid (Ph.bt s k = (s[k]'hks).toNat) := hbk
        clear hbk
        have bad : Ph.bt s k < 128 ∨ 191 < Ph.bt s k → Ph.decZ s.data.toList = (65533, 1) := fun h => by rw [HD.out, Ph.d2b _ _ (Ph.bt_lt s) HB.out k hk1 hk h]
        have BAD := Lib.hid bad
        clear bad
        by_cases hc1 : (s[k]'hks).toNat < 128
        · have hc1' : ((s[k]'hks).toNat : Int) < 128 := by omega
          go_wp2
          go_ret2
          exact ⟨ret_dec_err (BAD.out (.inl (by rw [HK.out]; exact hc1))), rfl⟩
        · have hc1' : (128 : Int) ≤ ((s[k]'hks).toNat : Int) := by omega
          by_cases hc2 : 191 < (s[k]'hks).toNat
          · have hc2' : (191 : Int) < ((s[k]'hks).toNat : Int) := by omega
            go_wp2
            go_ret2
            exact ⟨ret_dec_err (BAD.out (.inr (by rw [HK.out]; exact hc2))), rfl⟩
          · have hc2' : ((s[k]'hks).toNat : Int) ≤ 191 := by omega
            have HS : Hid (Ph.Rk ((Ph.bt s 0 : Int) - 192) (Ph.bt s) (k + 1) = Ph.Rk ((Ph.bt s 0 : Int) - 192) (Ph.bt s) k * 64 + ((s[k]'hks).toNat : Int) - 128) := by
              show _ = _
              rw [Ph.Rk_succ _ _ _ hk1, HK.out]
            go_wp2
            go_round
            case rel =>
              refine ⟨k + 1, by omega, by omega, by go_num, by rw [HS.out], fun j h1 h2 => ?_⟩
              by_cases hj : j < k
              · exact HJ.out j h1 hj
              · obtain rfl : j = k := by omega
                rw [HK.out]; omega
            case measure => simp [intOf]; omega
      · obtain rfl : k = 2 := by omega
        have hk' : ¬ ((2 : Nat) : Int) < 2 := by omega
        have bad := fun h => Ph.d2e s.size (Ph.bt s) HB.out (by omega) HJ.out h
        have good := fun h => Ph.d2o s.size (Ph.bt s) HB.out (by omega) HJ.out h
        rw [← HD.out] at bad good
        have BAD := Lib.hid bad
        have GOOD := Lib.hid good
        clear bad good
        generalize Ph.Rk ((Ph.bt s 0 : Int) - 192) (Ph.bt s) 2 = R at *
        go_wp2
        all_goals
          go_ret2
          refine ⟨?_, rfl⟩
          first
            | exact ret_dec_err (BAD.out (by omega))
            | (have G := GOOD.out (by omega); exact ret_dec G.1.symm (by rw [G.2.1]; rfl))
            | (exfalso; have G := GOOD.out (by omega); omega)

set_option maxRecDepth 100000 in
set_option maxHeartbeats 800000 in
theorem dec_3 (s : ByteArray) (w : World) (hs : s.size ≤ 9223372036854775807) (hp : 0 < s.size) (h0 : 224 ≤ (s[0]'hp).toNat) (h1 : (s[0]'hp).toNat < 240) :
    Calls Tryd.prog 49 #[.string s] w fun e w' => e = .returned (.tuple #[.int .i32 (Ph.decZ s.data.toList).1, .int .i64 (Ph.decZ s.data.toList).2]) ∧ w = w' := by
  have ex := Ph.empty_no hp
  have hd := Ph.decZ_bt s hp
  have h0' : (224 : Int) ≤ ((s[0]'hp).toNat : Int) := by omega
  have h1' : ((s[0]'hp).toNat : Int) < 240 := by omega
  have HB : Hid (224 ≤ Ph.bt s 0 ∧ Ph.bt s 0 < 240) := by rw [Ph.bt_at s 0 hp]; exact ⟨h0, h1⟩
  have HZ : Hid (((s[0]'hp).toNat : Int) = Ph.bt s 0) := by show _ = _; rw [Ph.bt_at s 0 hp]
  by_cases hn : s.size < 3
  · have HD : Hid (Ph.decZ s.data.toList = (65533, 1)) := by
      show _ = _
      rw [hd, Ph.d3s _ _ _ _ _ HB.out hn]
    have hn' : (s.size : Int) < 3 := by omega
    clear hd
    go_enter Tryd.func49, Tryd.ntmps49
    go_wp2
    go_ret2
    exact ⟨ret_dec_err HD.out, rfl⟩
  · have hn' : (3 : Int) ≤ (s.size : Int) := by omega
    have HD := Lib.hid hd
    clear hd
    go_enter Tryd.func49, Tryd.ntmps49
    go_wp2
    go_loop [7, 8] (fun r i => ∃ k : Nat, 1 ≤ k ∧ k ≤ 3 ∧ i = .int .i64 k ∧ r = .int .i32 (Ph.Rk ((Ph.bt s 0 : Int) - 224) (Ph.bt s) k) ∧ Hid (∀ j, 1 ≤ j → j < k → 128 ≤ Ph.bt s j ∧ Ph.bt s j ≤ 191)) (fun _ i => 3 - (intOf i).toNat)
    case atStart => exact ⟨1, by omega, by omega, rfl, by rw [HZ.out]; rfl, fun j h1 h2 => by omega⟩
    case round =>
      obtain ⟨k, hk1, hk2, rfl, rfl, HJ⟩ := hrel
      have hR := Ph.Rk_bd ((Ph.bt s 0 : Int) - 224) (Ph.bt s) (by have := HB.out; omega) (by have := HB.out; omega) k (by omega) HJ.out
      obtain ⟨hR0, hR1⟩ := hR
      by_cases hk : k < 3
      · have hks : k < s.size := by omega
        have hbk := Ph.bt_at s k hks
        have hk' : (k : Int) < 3 := by omega
        have hbl := (s[k]'hks).toNat_lt
        have HK : Hid (Ph.bt s k = (s[k]'hks).toNat) := hbk
        clear hbk
        have bad : Ph.bt s k < 128 ∨ 191 < Ph.bt s k → Ph.decZ s.data.toList = (65533, 1) := fun h => by rw [HD.out, Ph.d3b _ _ (Ph.bt_lt s) HB.out k hk1 hk h]
        have BAD := Lib.hid bad
        clear bad
        by_cases hc1 : (s[k]'hks).toNat < 128
        · have hc1' : ((s[k]'hks).toNat : Int) < 128 := by omega
          go_wp2
          go_ret2
          exact ⟨ret_dec_err (BAD.out (.inl (by rw [HK.out]; exact hc1))), rfl⟩
        · have hc1' : (128 : Int) ≤ ((s[k]'hks).toNat : Int) := by omega
          by_cases hc2 : 191 < (s[k]'hks).toNat
          · have hc2' : (191 : Int) < ((s[k]'hks).toNat : Int) := by omega
            go_wp2
            go_ret2
            exact ⟨ret_dec_err (BAD.out (.inr (by rw [HK.out]; exact hc2))), rfl⟩
          · have hc2' : ((s[k]'hks).toNat : Int) ≤ 191 := by omega
            have HS : Hid (Ph.Rk ((Ph.bt s 0 : Int) - 224) (Ph.bt s) (k + 1) = Ph.Rk ((Ph.bt s 0 : Int) - 224) (Ph.bt s) k * 64 + ((s[k]'hks).toNat : Int) - 128) := by
              show _ = _
              rw [Ph.Rk_succ _ _ _ hk1, HK.out]
            go_wp2
            go_round
            case rel =>
              refine ⟨k + 1, by omega, by omega, by go_num, by rw [HS.out], fun j h1 h2 => ?_⟩
              by_cases hj : j < k
              · exact HJ.out j h1 hj
              · obtain rfl : j = k := by omega
                rw [HK.out]; omega
            case measure => simp [intOf]; omega
      · obtain rfl : k = 3 := by omega
        have hk' : ¬ ((3 : Nat) : Int) < 3 := by omega
        have bad := fun h => Ph.d3e s.size (Ph.bt s) HB.out (by omega) HJ.out h
        have good := fun h => Ph.d3o s.size (Ph.bt s) HB.out (by omega) HJ.out h
        rw [← HD.out] at bad good
        have BAD := Lib.hid bad
        have GOOD := Lib.hid good
        clear bad good
        generalize Ph.Rk ((Ph.bt s 0 : Int) - 224) (Ph.bt s) 3 = R at *
        go_wp2
        all_goals
          go_ret2
          refine ⟨?_, rfl⟩
          first
            | exact ret_dec_err (BAD.out (by omega))
            | (have G := GOOD.out (by omega); exact ret_dec G.1.symm (by rw [G.2.1]; rfl))
            | (exfalso; have G := GOOD.out (by omega); omega)

set_option maxRecDepth 100000 in
set_option maxHeartbeats 800000 in
theorem dec_4 (s : ByteArray) (w : World) (hs : s.size ≤ 9223372036854775807) (hp : 0 < s.size) (h0 : 240 ≤ (s[0]'hp).toNat) (h1 : (s[0]'hp).toNat < 248) :
    Calls Tryd.prog 49 #[.string s] w fun e w' => e = .returned (.tuple #[.int .i32 (Ph.decZ s.data.toList).1, .int .i64 (Ph.decZ s.data.toList).2]) ∧ w = w' := by
  have ex := Ph.empty_no hp
  have hd := Ph.decZ_bt s hp
  have h0' : (240 : Int) ≤ ((s[0]'hp).toNat : Int) := by omega
  have h1' : ((s[0]'hp).toNat : Int) < 248 := by omega
  have HB : Hid (240 ≤ Ph.bt s 0 ∧ Ph.bt s 0 < 248) := by rw [Ph.bt_at s 0 hp]; exact ⟨h0, h1⟩
  have HZ : Hid (((s[0]'hp).toNat : Int) = Ph.bt s 0) := by show _ = _; rw [Ph.bt_at s 0 hp]
  by_cases hn : s.size < 4
  · have HD : Hid (Ph.decZ s.data.toList = (65533, 1)) := by
      show _ = _
      rw [hd, Ph.d4s _ _ _ _ _ HB.out hn]
    have hn' : (s.size : Int) < 4 := by omega
    clear hd
    go_enter Tryd.func49, Tryd.ntmps49
    go_wp2
    go_ret2
    exact ⟨ret_dec_err HD.out, rfl⟩
  · have hn' : (4 : Int) ≤ (s.size : Int) := by omega
    have HD := Lib.hid hd
    clear hd
    go_enter Tryd.func49, Tryd.ntmps49
    go_wp2
    go_loop [7, 8] (fun r i => ∃ k : Nat, 1 ≤ k ∧ k ≤ 4 ∧ i = .int .i64 k ∧ r = .int .i32 (Ph.Rk ((Ph.bt s 0 : Int) - 240) (Ph.bt s) k) ∧ Hid (∀ j, 1 ≤ j → j < k → 128 ≤ Ph.bt s j ∧ Ph.bt s j ≤ 191)) (fun _ i => 4 - (intOf i).toNat)
    case atStart => exact ⟨1, by omega, by omega, rfl, by rw [HZ.out]; rfl, fun j h1 h2 => by omega⟩
    case round =>
      obtain ⟨k, hk1, hk2, rfl, rfl, HJ⟩ := hrel
      have hR := Ph.Rk_bd ((Ph.bt s 0 : Int) - 240) (Ph.bt s) (by have := HB.out; omega) (by have := HB.out; omega) k (by omega) HJ.out
      obtain ⟨hR0, hR1⟩ := hR
      by_cases hk : k < 4
      · have hks : k < s.size := by omega
        have hbk := Ph.bt_at s k hks
        have hk' : (k : Int) < 4 := by omega
        have hbl := (s[k]'hks).toNat_lt
        have HK : Hid (Ph.bt s k = (s[k]'hks).toNat) := hbk
        clear hbk
        have bad : Ph.bt s k < 128 ∨ 191 < Ph.bt s k → Ph.decZ s.data.toList = (65533, 1) := fun h => by rw [HD.out, Ph.d4b _ _ (Ph.bt_lt s) HB.out k hk1 hk h]
        have BAD := Lib.hid bad
        clear bad
        by_cases hc1 : (s[k]'hks).toNat < 128
        · have hc1' : ((s[k]'hks).toNat : Int) < 128 := by omega
          go_wp2
          go_ret2
          exact ⟨ret_dec_err (BAD.out (.inl (by rw [HK.out]; exact hc1))), rfl⟩
        · have hc1' : (128 : Int) ≤ ((s[k]'hks).toNat : Int) := by omega
          by_cases hc2 : 191 < (s[k]'hks).toNat
          · have hc2' : (191 : Int) < ((s[k]'hks).toNat : Int) := by omega
            go_wp2
            go_ret2
            exact ⟨ret_dec_err (BAD.out (.inr (by rw [HK.out]; exact hc2))), rfl⟩
          · have hc2' : ((s[k]'hks).toNat : Int) ≤ 191 := by omega
            have HS : Hid (Ph.Rk ((Ph.bt s 0 : Int) - 240) (Ph.bt s) (k + 1) = Ph.Rk ((Ph.bt s 0 : Int) - 240) (Ph.bt s) k * 64 + ((s[k]'hks).toNat : Int) - 128) := by
              show _ = _
              rw [Ph.Rk_succ _ _ _ hk1, HK.out]
            go_wp2
            go_round
            case rel =>
              refine ⟨k + 1, by omega, by omega, by go_num, by rw [HS.out], fun j h1 h2 => ?_⟩
              by_cases hj : j < k
              · exact HJ.out j h1 hj
              · obtain rfl : j = k := by omega
                rw [HK.out]; omega
            case measure => simp [intOf]; omega
      · obtain rfl : k = 4 := by omega
        have hk' : ¬ ((4 : Nat) : Int) < 4 := by omega
        have bad := fun h => Ph.d4e s.size (Ph.bt s) HB.out (by omega) HJ.out h
        have good := fun h => Ph.d4o s.size (Ph.bt s) HB.out (by omega) HJ.out h
        rw [← HD.out] at bad good
        have BAD := Lib.hid bad
        have GOOD := Lib.hid good
        clear bad good
        generalize Ph.Rk ((Ph.bt s 0 : Int) - 240) (Ph.bt s) 4 = R at *
        go_wp2
        all_goals
          go_ret2
          refine ⟨?_, rfl⟩
          first
            | exact ret_dec_err (BAD.out (by omega))
            | (have G := GOOD.out (by omega); exact ret_dec G.1.symm (by rw [G.2]; rfl))
            | (exfalso; have G := GOOD.out (by omega); omega)

/-- THE REFERENCE's DECODER, at every text. -/
theorem ref_Decode (s : ByteArray) (w : World) (hs : s.size ≤ 9223372036854775807) :
    Calls Tryd.prog 49 #[.string s] w fun e w' => e = .returned (.tuple #[.int .i32 (Ph.decZ s.data.toList).1, .int .i64 (Ph.decZ s.data.toList).2]) ∧ w = w' := by
  by_cases hp : 0 < s.size
  · have hl := (s[0]'hp).toNat_lt
    by_cases h1 : (s[0]'hp).toNat < 128
    · exact dec_ascii s w hp h1
    · by_cases h2 : (s[0]'hp).toNat < 192
      · exact dec_none s w hp (.inl ⟨by omega, h2⟩)
      · by_cases h3 : (s[0]'hp).toNat < 224
        · exact dec_2 s w hs hp (by omega) h3
        · by_cases h4 : (s[0]'hp).toNat < 240
          · exact dec_3 s w hs hp (by omega) h4
          · by_cases h5 : (s[0]'hp).toNat < 248
            · exact dec_4 s w hs hp (by omega) h5
            · exact dec_none s w hp (.inr (by omega))
  · exact dec_short s w hp
end Go.Proofs.YtfnmfofipcnojaaDoor
