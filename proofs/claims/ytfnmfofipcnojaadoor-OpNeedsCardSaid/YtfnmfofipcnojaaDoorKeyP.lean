/-
  The walk of runes.Key, for a seat that lacks its neighbours.
-/
import Derived.Test.YtfnmfofipcnojaaDoorRunesV
import Derived.Test.YtfnmfofipcnojaaDoorRunesStep
import Derived.WalkKit
import Derived.WalkLawsBesides
import Derived.WalkSpells
import Derived.Lib.Hide
import Derived.Deep.QuietTactic
import Derived.BigQuiet
set_option linter.unusedVariables false
namespace Go.Proofs.YtfnmfofipcnojaaDoor
open Go.RowKit

set_option maxHeartbeats 400000 in
theorem runes_Key (s : ByteArray) (w : World) (hs : s.size ≤ 9223372036854775807) (hT : Tabs w) :
    Calls Tryd.prog 24 #[.string s] w fun e w' => e = .returned (.bool (Ph.keyB s.data.toList)) ∧ Below w.heap.size w w' := by
  have hcl := Ph.count_le s
  go_enter Tryd.func24, Tryd.ntmps24
  go_wp2
  go_loopw [3] (fun n wr => ∃ pos k : Nat, wr = w.iter s pos ∧ n = .int .i64 k ∧ k ≤ s.size ∧ Hid (k + (Ph.rs (s.data.toList.drop pos)).length = Ph.count s.data.toList) ∧ Hid (Ph.plainB (Ph.rs s.data.toList) = Ph.plainB (Ph.rs (s.data.toList.drop pos)))) (fun _ wr => s.size - wr.iterPos w.heap.size)
  case atStart => exact ⟨0, 0, rfl, rfl, by omega, by unfold Hid; simp [Ph.count], by unfold Hid; simp⟩
  case round =>
    obtain ⟨pos, k, rfl, rfl, hkb, HK, HP⟩ := hrel
    by_cases hp : pos < s.size
    · have hnx := fun ty => run_next_any (P := Tryd.prog) w s pos ty hp
      have HR : Hid (Ph.rs (s.data.toList.drop pos) = Utf8.decode s pos :: Ph.rs (s.data.toList.drop (pos + (Utf8.decode s pos).2))) := Ph.rs_at s pos hp
      have hk1 : k + 1 ≤ s.size := by
        have h1 := HK.out
        rw [HR.out, List.length_cons] at h1
        omega
      have bad : (Utf8.decode s pos).1 < 32 ∨ (Utf8.decode s pos).1 = 127 → Ph.keyB s.data.toList = false := fun h => Ph.keyB_bad (by rw [HP.out, HR.out, Ph.plainB_bad h])
      have BAD := Lib.hid bad
      clear bad
      by_cases h32 : (Utf8.decode s pos).1 < 32
      · have h32' : ((Utf8.decode s pos).1 : Int) < 32 := by omega
        go_wp2
        go_ret
        exact ⟨ret_bool (BAD.out (.inl h32)).symm, (Below.refl _ _).alloc (Nat.le_refl _) _⟩
      · by_cases h127 : (Utf8.decode s pos).1 = 127
        · have h32' : (32 : Int) ≤ ((Utf8.decode s pos).1 : Int) := by omega
          have h127' : (((Utf8.decode s pos).1 : Int) == 127) = true := by rw [beq_iff_eq]; omega
          have HB : Hid (Ph.keyB s.data.toList = false) := BAD.out (.inr h127)
          clear h127
          go_wp2
          go_ret
          exact ⟨ret_bool HB.out.symm, (Below.refl _ _).alloc (Nat.le_refl _) _⟩
        · have h32' : (32 : Int) ≤ ((Utf8.decode s pos).1 : Int) := by omega
          have h127' : (((Utf8.decode s pos).1 : Int) == 127) = false := by rw [beq_eq_false_iff_ne]; omega
          have HG : Hid (¬ ((Utf8.decode s pos).1 < 32 ∨ (Utf8.decode s pos).1 = 127)) := by show ¬ _; omega
          clear h127
          go_wp2
          go_roundw
          case rel =>
            refine ⟨pos + (Utf8.decode s pos).2, k + 1, rfl, by go_num, hk1, ?_, ?_⟩
            · have h1 := HK.out
              rw [HR.out, List.length_cons] at h1
              show _ = _
              omega
            · show _ = _
              rw [HP.out, HR.out, Ph.plainB_good HG.out]
          case measure =>
            have := Ph.width_pos s pos
            rw [World.iterPos_iter, World.iterPos_iter]
            omega
    · have hnx := fun ty => run_next_end (P := Tryd.prog) w s pos ty hp
      have hT2 : Tabs (w.iter s pos) := hT.keep ((Below.refl _ _).alloc (Nat.le_refl _) _)
      have HK2 : Hid (k = Ph.count s.data.toList ∧ Ph.plainB (Ph.rs s.data.toList) = true) := by
        have h1 := HK.out
        have h2 := HP.out
        rw [Ph.rs_end s pos hp] at h1 h2
        exact ⟨h1, h2⟩
      by_cases h1 : 1 ≤ k ∧ k ≤ 40
      · obtain ⟨ha, hb'⟩ := h1
        have ha' : (1 : Int) ≤ (k : Int) := by omega
        have hb'' : (k : Int) ≤ 40 := by omega
        go_wp2_with (go_at_call 35; refine (runes_Valid _ _ hs hT2).mono ?_; rintro e w' ⟨rfl, hb⟩)
        go_ret
        refine ⟨ret_bool ?_, ((Below.refl _ _).alloc (Nat.le_refl _) (.stringIter s _)).trans (hb.mono (by simp [World.iter]))⟩
        rw [Ph.keyB_long HK2.out.2 (by rw [← HK2.out.1]; omega) (by rw [← HK2.out.1]; omega)]
      · have HS : Hid (Ph.keyB s.data.toList = false) := Ph.keyB_short (by rw [← HK2.out.1]; exact h1)
        by_cases ha : 1 ≤ k
        · have ha' : (1 : Int) ≤ (k : Int) := by omega
          have hb'' : (40 : Int) < (k : Int) := by omega
          clear h1
          go_wp2
          go_ret
          exact ⟨ret_bool HS.out.symm, (Below.refl _ _).alloc (Nat.le_refl _) _⟩
        · have ha' : (k : Int) < 1 := by omega
          clear h1
          go_wp2
          go_ret
          exact ⟨ret_bool HS.out.symm, (Below.refl _ _).alloc (Nat.le_refl _) _⟩

end Go.Proofs.YtfnmfofipcnojaaDoor
