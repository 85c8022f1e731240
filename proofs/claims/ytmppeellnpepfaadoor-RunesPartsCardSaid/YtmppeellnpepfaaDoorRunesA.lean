/-
  The walks of package runes that read a text: Count, Cut, Lower. Each function is walked once; what it hands back is the plain law's word.
-/
import Derived.Test.YtmppeellnpepfaaDoorChecked
import Derived.Test.YtmppeellnpepfaaDoorRunesStep
import Derived.WalkKit
import Derived.WalkLawsBesides
import Derived.WalkSpells
import Derived.Lib.Hide
set_option linter.unusedVariables false
namespace Go.Proofs.YtmppeellnpepfaaDoor
open Go.RowKit

theorem ret_int {k : IntKind} {a b : Int} (h : a = b) : Ending.returned (.int k a) = .returned (.int k b) := by rw [h]

set_option maxHeartbeats 400000 in
theorem runes_Count (s : ByteArray) (w : World) (hs : s.size ≤ 9223372036854775807) :
    Calls Tryd.prog 18 #[.string s] w fun e w' => e = .returned (.int .i64 (Ph.count s.data.toList)) ∧ Below w.heap.size w w' := by
  have hcl := Ph.count_le s
  go_enter Tryd.func18, Tryd.ntmps18
  go_wp2
  go_loopw [3] (fun n wr => ∃ pos k : Nat, wr = w.iter s pos ∧ n = .int .i64 k ∧ k + (Ph.rs (s.data.toList.drop pos)).length = Ph.count s.data.toList) (fun _ wr => s.size - wr.iterPos w.heap.size)
  case atStart => exact ⟨0, 0, rfl, rfl, by simp [Ph.count]⟩
  case round =>
    obtain ⟨pos, k, rfl, rfl, hk⟩ := hrel
    by_cases hp : pos < s.size
    · have hr := Ph.rs_at s pos hp
      have HK : Hid (k + 1 + (Ph.rs (s.data.toList.drop (pos + (Utf8.decode s pos).2))).length = Ph.count s.data.toList) := by
        have := congrArg List.length hr
        unfold Hid
        simp at this
        omega
      have hkb : k + 1 ≤ s.size := by have := HK.out; omega
      clear hk hr
      have hnx := fun ty => run_next_any (P := Tryd.prog) w s pos ty hp
      go_wp2
      go_roundw
      case rel => exact ⟨pos + (Utf8.decode s pos).2, k + 1, rfl, by go_num, HK.out⟩
      case measure =>
        have := Ph.width_pos s pos
        rw [World.iterPos_iter, World.iterPos_iter]
        omega
    · have hr := Ph.rs_end s pos hp
      have HK : Hid (k = Ph.count s.data.toList) := by
        rw [hr] at hk
        exact hk
      clear hk hr
      have hnx := fun ty => run_next_end (P := Tryd.prog) w s pos ty hp
      go_wp2
      go_ret
      exact ⟨by rw [← HK.out]; rfl, (Below.refl _ _).alloc (Nat.le_refl _) _⟩

set_option maxHeartbeats 400000 in
theorem runes_Cut (s : ByteArray) (n : Int) (w : World) (hs : s.size ≤ 9223372036854775807) :
    Calls Tryd.prog 19 #[.string s, .int .i64 n] w fun e w' => e = .returned (.string ⟨(Ph.cutL s.data.toList n).toArray⟩) ∧ Below w.heap.size w w' := by
  have hcl := Ph.count_le s
  by_cases hn : n < 1
  · have HF : Hid (Ph.cutL s.data.toList n = []) := by unfold Hid Ph.cutL; rw [if_pos hn]
    go_enter Tryd.func19, Tryd.ntmps19
    go_wp2
    go_ret
    exact ⟨by rw [HF.out]; rfl, Below.refl _ _⟩
  · obtain ⟨m, rfl⟩ := Int.eq_ofNat_of_zero_le (show 0 ≤ n by omega)
    go_enter Tryd.func19, Tryd.ntmps19
    go_wp2
    go_loopw [5] (fun c wr => ∃ pos k : Nat, wr = w.iter s pos ∧ c = .int .i64 k ∧ k ≤ m ∧ Hid ((Ph.rs (s.data.toList.drop pos)) = (Ph.rs s.data.toList).drop k) ∧ Hid (pos = Ph.wid ((Ph.rs s.data.toList).take k))) (fun _ wr => s.size - wr.iterPos w.heap.size)
    case atStart => exact ⟨0, 0, rfl, rfl, by omega, by unfold Hid; simp, by unfold Hid; simp [Ph.wid_nil]⟩
    case round =>
      obtain ⟨pos, k, rfl, rfl, hkm, HK, HP⟩ := hrel
      by_cases hp : pos < s.size
      · have hnx := fun ty => run_next_any (P := Tryd.prog) w s pos ty hp
        by_cases he : k = m
        · subst he
          go_wp2
          go_ret
          refine ⟨?_, (Below.refl _ _).alloc (Nat.le_refl _) _⟩
          have HP' := HP.out
          subst HP'
          show Ending.returned (.string (s.extract 0 _)) = _
          rw [Ph.extract_eq, Ph.cutL, if_neg (by omega)]
          rfl
        · have he' : ((k : Int) == (m : Int)) = false := by simp; omega
          have hst := Ph.step_take (HK.out.symm.trans (Ph.rs_at s pos hp))
          have hkl : k + 1 ≤ s.size := by have := hst.1; unfold Ph.count at hcl; omega
          have HS : Hid ((Ph.rs s.data.toList).take (k + 1) = (Ph.rs s.data.toList).take k ++ [Utf8.decode s pos] ∧ (Ph.rs s.data.toList).drop (k + 1) = Ph.rs (s.data.toList.drop (pos + (Utf8.decode s pos).2))) := hst.2
          clear hst
          go_wp2
          go_roundw
          case rel =>
            refine ⟨pos + (Utf8.decode s pos).2, k + 1, rfl, by go_num, by omega, HS.out.2.symm, ?_⟩
            show _ = _
            rw [HS.out.1, Ph.wid_append, ← HP.out]
            simp [Ph.wid_cons, Ph.wid_nil]
          case measure =>
            have := Ph.width_pos s pos
            rw [World.iterPos_iter, World.iterPos_iter]
            omega
      · have hnx := fun ty => run_next_end (P := Tryd.prog) w s pos ty hp
        go_wp2
        go_ret
        have hle := Ph.drop_nil_le (HK.out.symm.trans (Ph.rs_end s pos hp))
        refine ⟨?_, (Below.refl _ _).alloc (Nat.le_refl _) _⟩
        rw [Ph.cutL_all _ _ (by unfold Ph.count; omega) (by omega), Ph.eta_bytes]
        rfl

set_option maxHeartbeats 400000 in
theorem runes_Lower (r : Int) (w : World) (h0 : -2147483648 ≤ r) (h1 : r ≤ 2147483647) :
    Calls Tryd.prog 27 #[.int .i32 r] w fun e w' => e = .returned (.int .i32 (Ph.lower r)) ∧ w = w' := by
  go_enter Tryd.func27, Tryd.ntmps27
  go_wp2
  all_goals
    go_ret
    refine ⟨ret_int ?_, rfl⟩
    try simp only [bne_iff_ne, ne_eq, bne_eq_false_iff_eq] at *
    unfold Ph.lower
    split <;> omega

set_option maxHeartbeats 400000 in
theorem ref_Lower (r : Int) (w : World) (h0 : -2147483648 ≤ r) (h1 : r ≤ 2147483647) :
    Calls Tryd.prog 28 #[.int .i32 r] w fun e w' => e = .returned (.int .i32 (Ph.lower r)) ∧ w = w' := by
  go_enter Tryd.func28, Tryd.ntmps28
  go_wp2
  all_goals
    go_ret
    refine ⟨ret_int ?_, rfl⟩
    try simp only [bne_iff_ne, ne_eq, bne_eq_false_iff_eq] at *
    unfold Ph.lower
    split <;> omega
end Go.Proofs.YtmppeellnpepfaaDoor
