/-
  The walk of num.Get.
-/
import Derived.Test.YtfnmfofipcnojaaDoorNumA
set_option linter.unusedVariables false
namespace Go.Proofs.YtfnmfofipcnojaaDoor
open Go.RowKit

theorem get_ret {l : List UInt8} {a b c : Int} (h : Ph.getI l = (a, b.toNat, c)) (hb : 0 ≤ b) : Ending.returned (.tuple #[.int .i64 a, .int .i64 b, .int .i64 c]) = .returned (.tuple #[.int .i64 (Ph.getI l).1, .int .i64 (Ph.getI l).2.1, .int .i64 (Ph.getI l).2.2]) := by
  rw [h]
  exact ret_int3 rfl (by simp; omega) rfl

theorem get_ret2 {l : List UInt8} {a b c a' c' : Int} {b' : Nat} (h : Ph.getI l = (a', b', c')) (h1 : a = a') (h2 : b = b') (h3 : c = c') : Ending.returned (.tuple #[.int .i64 a, .int .i64 b, .int .i64 c]) = .returned (.tuple #[.int .i64 (Ph.getI l).1, .int .i64 (Ph.getI l).2.1, .int .i64 (Ph.getI l).2.2]) := by
  rw [h, h1, h2, h3]
theorem num_Get_nil (c : Nat) (w : World) :
    Calls Tryd.prog 44 #[.slice none 0 c] w fun e w' => e = .returned (.tuple #[.int .i64 (Ph.getI []).1, .int .i64 (Ph.getI []).2.1, .int .i64 (Ph.getI []).2.2]) ∧ w = w' := by
  go_enter Tryd.func44, Tryd.ntmps44
  go_wp2
  go_loop [5, 11] (fun u i => u = .int .u64 0 ∧ i = .int .i64 0) (fun _ i => 0)
  case atStart => exact ⟨rfl, rfl⟩
  case round =>
    obtain ⟨rfl, rfl⟩ := hrel
    go_wp2
    go_ret3
    exact ⟨rfl, rfl⟩

set_option maxRecDepth 100000 in
set_option maxHeartbeats 4000000 in
theorem num_Get_some (b off cap : Nat) (l : List UInt8) (w : World) (hl : l.length ≤ cap) (hm : cap ≤ 9223372036854775807) (hc : ∀ j (h : j < l.length), w.cell? ⟨b, off + j, none⟩ = some (.int .u8 (l[j].toNat : Int))) :
    Calls Tryd.prog 44 #[.slice (some ⟨b, off, none⟩) l.length cap] w fun e w' => e = .returned (.tuple #[.int .i64 (Ph.getI l).1, .int .i64 (Ph.getI l).2.1, .int .i64 (Ph.getI l).2.2]) ∧ w = w' := by
  have HC := Lib.hid hc
  clear hc
  go_enter Tryd.func44, Tryd.ntmps44
  go_wp2
  go_loop [5, 11] (fun u i => ∃ k x : Nat, k ≤ l.length ∧ k ≤ 9 ∧ i = .int .i64 k ∧ u = .int .u64 x ∧ Hid (x < 128 ^ k) ∧ Hid (Ph.getI l = Ph.getN k x (l.drop k))) (fun _ i => l.length - (intOf i).toNat)
  case atStart => exact ⟨0, 0, by omega, by omega, rfl, rfl, by show 0 < 128 ^ 0; decide, rfl⟩
  case round =>
    obtain ⟨k, x, hk, hk9, rfl, rfl, HX, HK⟩ := hrel
    by_cases hlt : k < l.length
    · have hlt' : (k : Int) < (l.length : Int) := by omega
      have hcell := HC.out k hlt
      have HD : Hid (l.drop k = l[k] :: l.drop (k + 1)) := List.drop_eq_getElem_cons hlt
      have hcb := (l[k]).toNat_lt
      generalize l[k] = c at *
      by_cases h9 : k = 9
      · subst h9
        have e9 : (128 : Nat) ^ 9 = 9223372036854775808 := by decide
        by_cases hc1 : 1 < c.toNat
        · have hc1' : (1 : Int) < (c.toNat : Int) := by omega
          have HF : Hid (Ph.getI l = (0, 0, 1)) := by show _ = _; rw [HK.out, HD.out, Ph.getN_big _ _ _ _ rfl hc1]
          clear e9
          go_wp2
          go_ret3
          exact ⟨get_ret HF.out (by omega), rfl⟩
        · have hc1' : (c.toNat : Int) ≤ 1 := by omega
          have hc2' : (c.toNat : Int) ≤ 127 := by omega
          have hor := Ph.or_last x c.toNat HX.out (by omega)
          have hy : x + c.toNat % 128 * 128 ^ 9 < 18446744073709551616 := by have := HX.out; omega
          clear e9
          by_cases hz : c.toNat = 0
          · have hz' : ((c.toNat : Int) == 0) = true := by rw [beq_iff_eq]; omega
            have HF : Hid (Ph.getI l = (0, 0, 1)) := by show _ = _; rw [HK.out, HD.out, Ph.getN_zero _ _ _ _ (by omega) hz]
            have HYY := Lib.hid hy
            clear hz hy
            go_wp2
            go_ret3
            exact ⟨get_ret HF.out (by omega), rfl⟩
          · have hz' : ((c.toNat : Int) == 0) = false := by rw [beq_eq_false_iff_ne]; omega
            have HF : Hid (Ph.getI l = (Ph.unzig (x + c.toNat % 128 * 128 ^ 9), 9 + 1, 0)) := by show _ = _; rw [HK.out, HD.out, Ph.getN_last _ _ _ _ (by omega) (by omega) (by omega)]
            clear hz
            generalize x + c.toNat % 128 * 128 ^ 9 = y at *
            have HYY := Lib.hid hy
            have hod := and_one_u64 (y : Int) (by omega) (by omega)
            have hnt := i64_not (y / 2) (by omega)
            have hdv : (0 : Int) ≤ (y : Int) / 2 := by omega
            have hdv2 : (y : Int) / 2 ≤ 9223372036854775807 := by omega
            clear hy
            by_cases ho : y % 2 = 1
            · have ho' : ((y : Int) % 2 == 1) = true := by rw [beq_iff_eq]; omega
              have HU := Lib.hid (Ph.unzig_odd y ho)
              clear ho
              go_wp2
              go_ret3
              refine ⟨get_ret2 HF.out ?_ rfl rfl, rfl⟩
              have e : (y : Int) / 2 = ((y / 2 : Nat) : Int) := by omega
              show bits BinOp.xor IntKind.i64 (-1) ((y : Int) / 2) = _
              rw [e, i64_not _ (by have := HYY.out; omega), HU.out]
            · have ho' : ((y : Int) % 2 == 1) = false := by rw [beq_eq_false_iff_ne]; omega
              have HU := Lib.hid (Ph.unzig_even y (by omega))
              clear ho
              go_wp2
              go_ret3
              refine ⟨get_ret2 HF.out ?_ rfl rfl, rfl⟩
              show (y : Int) / 2 = _
              rw [HU.out]
              omega
      · have h9' : ((k : Int) == 9) = false := by rw [beq_eq_false_iff_ne]; omega
        have hsm := Ph.sum_small x c.toNat k HX.out (by omega) hcb
        have hor := Ph.or_seven x c.toNat k HX.out hcb hsm.1 (by omega)
        have hy : x + c.toNat % 128 * 128 ^ k < 9223372036854775808 := by
          have h1 := hsm.2
          have h2 : (128 : Nat) ^ (k + 1) ≤ 128 ^ 9 := Nat.pow_le_pow_right (by omega) (by omega)
          have e9 : (128 : Nat) ^ 9 = 9223372036854775808 := by decide
          omega
        have HSM := Lib.hid hsm.2
        clear hsm
        by_cases hc1 : 127 < c.toNat
        · have hc1' : (127 : Int) < (c.toNat : Int) := by omega
          have HF : Hid (Ph.getI l = Ph.getN (k + 1) (x + c.toNat % 128 * 128 ^ k) (l.drop (k + 1))) := by show _ = _; rw [HK.out, HD.out, Ph.getN_more _ _ _ _ h9 (by omega)]
          generalize x + c.toNat % 128 * 128 ^ k = y at *
          have HYY := Lib.hid hy
          clear hy
          go_wp2
          go_round
          case rel => exact ⟨k + 1, y, by omega, by omega, by go_num, rfl, HSM.out, HF.out⟩
          case measure => simp [intOf]; omega
        · have hc1' : (c.toNat : Int) ≤ 127 := by omega
          by_cases hz : 0 < k ∧ c.toNat = 0
          · obtain ⟨hz1, hz2⟩ := hz
            have hk0 : (0 : Int) < (k : Int) := by omega
            have hz' : ((c.toNat : Int) == 0) = true := by rw [beq_iff_eq]; omega
            have HF : Hid (Ph.getI l = (0, 0, 1)) := by show _ = _; rw [HK.out, HD.out, Ph.getN_zero _ _ _ _ hz1 hz2]
            have HYY := Lib.hid hy
            clear hy hz2
            go_wp2
            go_ret3
            exact ⟨get_ret HF.out (by omega), rfl⟩
          · have HF : Hid (Ph.getI l = (Ph.unzig (x + c.toNat % 128 * 128 ^ k), k + 1, 0)) := by show _ = _; rw [HK.out, HD.out, Ph.getN_last _ _ _ _ (by omega) (by omega) hz]
            have HZZ := Lib.hid hz
            clear hz
            generalize x + c.toNat % 128 * 128 ^ k = y at *
            have HYY := Lib.hid hy
            have hod := and_one_u64 (y : Int) (by omega) (by omega)
            have hdv : (0 : Int) ≤ (y : Int) / 2 := by omega
            have hdv2 : (y : Int) / 2 ≤ 9223372036854775807 := by omega
            clear hy
            by_cases hk0 : 0 < k
            all_goals
              by_cases ho : y % 2 = 1
              · have hz' : 0 < k → ((c.toNat : Int) == 0) = false := fun h => by rw [beq_eq_false_iff_ne]; have := HZZ.out; omega
                have hzk : Hid True := trivial
                first | (have hz2 := hz' hk0; clear hz') | clear hz'
                have ho' : ((y : Int) % 2 == 1) = true := by rw [beq_iff_eq]; omega
                have HU := Lib.hid (Ph.unzig_odd y ho)
                clear ho
                go_wp2
                go_ret3
                refine ⟨get_ret2 HF.out ?_ rfl rfl, rfl⟩
                have e : (y : Int) / 2 = ((y / 2 : Nat) : Int) := by omega
                show bits BinOp.xor IntKind.i64 (-1) ((y : Int) / 2) = _
                rw [e, i64_not _ (by have := HYY.out; omega), HU.out]
              · have hz' : 0 < k → ((c.toNat : Int) == 0) = false := fun h => by rw [beq_eq_false_iff_ne]; have := HZZ.out; omega
                have hzk : Hid True := trivial
                first | (have hz2 := hz' hk0; clear hz') | clear hz'
                have ho' : ((y : Int) % 2 == 1) = false := by rw [beq_eq_false_iff_ne]; omega
                have HU := Lib.hid (Ph.unzig_even y (by omega))
                clear ho
                go_wp2
                go_ret3
                refine ⟨get_ret2 HF.out ?_ rfl rfl, rfl⟩
                show (y : Int) / 2 = _
                rw [HU.out]
                omega
    · have hlt' : (l.length : Int) ≤ (k : Int) := by omega
      have HF : Hid (Ph.getI l = (0, 0, 2)) := by show _ = _; rw [HK.out, List.drop_eq_nil_of_le (by omega), Ph.getN_end]
      go_wp2
      go_ret3
      exact ⟨get_ret HF.out (by omega), rfl⟩
end Go.Proofs.YtfnmfofipcnojaaDoor
