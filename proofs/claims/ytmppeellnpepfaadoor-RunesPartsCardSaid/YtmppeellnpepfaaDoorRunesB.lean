/-
  The walks of package runes, more: Decode, Key, Less.
-/
import Derived.Test.YtmppeellnpepfaaDoorRunesV
import Derived.Deep.QuietTactic
import Derived.BigQuiet
set_option linter.unusedVariables false
namespace Go.Proofs.YtmppeellnpepfaaDoor
open Go.RowKit

set_option maxHeartbeats 400000 in
theorem runes_Decode (s : ByteArray) (w : World) (hs : s.size ≤ 9223372036854775807) :
    Calls Tryd.prog 15 #[.string s] w fun e w' => e = .returned (.tuple #[.int .i32 (Ph.decZ s.data.toList).1, .int .i64 (Ph.decZ s.data.toList).2]) ∧ Below w.heap.size w w' := by
  by_cases hp : 0 < s.size
  · have hnx := fun ty => run_next_any (P := Tryd.prog) w s 0 ty hp
    have HD : Hid (Ph.decZ s.data.toList = Utf8.decode s 0 ∧ (Ph.cutL s.data.toList 1).length = (Utf8.decode s 0).2) := Ph.decZ_at s hp
    go_enter Tryd.func15, Tryd.ntmps15
    go_wp2
    go_loopw [] (fun wr => wr = w.iter s 0) (fun wr => 0)
    case atStart => rfl
    case round =>
      obtain rfl := hrel
      go_wp2_with (go_at_call 19; refine (runes_Cut _ _ _ hs).mono ?_; rintro e w' ⟨rfl, hb⟩)
      go_ret2
      refine ⟨ret_tab ?_ ?_, ((Below.refl _ _).alloc (Nat.le_refl _) (.stringIter s _)).trans (hb.mono (by simp [World.iter]))⟩
      · rw [HD.out.1]
      · rw [HD.out.1, ← HD.out.2]
  · have hnx := fun ty => run_next_end (P := Tryd.prog) w s 0 ty hp
    have HD : Hid (Ph.decZ s.data.toList = (65533, 0)) := Ph.decZ_empty s hp
    go_enter Tryd.func15, Tryd.ntmps15
    go_wp2
    go_loopw [] (fun wr => wr = w.iter s 0) (fun wr => 0)
    case atStart => rfl
    case round =>
      obtain rfl := hrel
      go_wp2
      go_ret2
      rw [HD.out]
      exact ⟨rfl, (Below.refl _ _).alloc (Nat.le_refl _) _⟩

set_option maxHeartbeats 400000 in
theorem runes_Key (s : ByteArray) (w : World) (hs : s.size ≤ 9223372036854775807) (hT : Tabs w) :
    Calls Tryd.prog 21 #[.string s] w fun e w' => e = .returned (.bool (Ph.keyB s.data.toList)) ∧ Below w.heap.size w w' := by
  have hcl := Ph.count_le s
  go_enter Tryd.func21, Tryd.ntmps21
  go_wp2
  go_loopw [3] (fun n wr => ∃ pos k : Nat, wr = w.iter s pos ∧ n = .int .i64 k ∧ k ≤ s.size ∧ Hid (k + (Ph.rs (s.data.toList.drop pos)).length = Ph.count s.data.toList) ∧ Hid (Ph.plainB (Ph.rs s.data.toList) = Ph.plainB (Ph.rs (s.data.toList.drop pos)))) (fun _ wr => s.size - wr.iterPos w.heap.size)
  case atStart => exact ⟨0, 0, rfl, rfl, by omega, by unfold Hid; simp [Ph.count], by unfold Hid; simp⟩
  case round =>
    obtain ⟨pos, k, rfl, rfl, hkb, HK, HP⟩ := hrel
    by_cases hp : pos < s.size
    · have hnx := fun ty => run_next_any (P := Tryd.prog) w s pos ty hp
      have HR : Hid (Ph.rs (s.data.toList.drop pos) = Utf8.decode s pos :: Ph.rs (s.data.toList.drop (pos + (Utf8.decode s pos).2))) := Ph.rs_at s pos hp
      have hk1 : k + 1 ≤ s.size := by
        have h1 := HK.out
        rw [HR.out, List.length_cons] at h1
        omega
      have bad : (Utf8.decode s pos).1 < 32 ∨ (Utf8.decode s pos).1 = 127 → Ph.keyB s.data.toList = false := fun h => Ph.keyB_bad (by rw [HP.out, HR.out, Ph.plainB_bad h])
      have BAD := Lib.hid bad
      clear bad
      by_cases h32 : (Utf8.decode s pos).1 < 32
      · have h32' : ((Utf8.decode s pos).1 : Int) < 32 := by omega
        go_wp2
        go_ret
        exact ⟨ret_bool (BAD.out (.inl h32)).symm, (Below.refl _ _).alloc (Nat.le_refl _) _⟩
      · by_cases h127 : (Utf8.decode s pos).1 = 127
        · have h32' : (32 : Int) ≤ ((Utf8.decode s pos).1 : Int) := by omega
          have h127' : (((Utf8.decode s pos).1 : Int) == 127) = true := by rw [beq_iff_eq]; omega
          have HB : Hid (Ph.keyB s.data.toList = false) := BAD.out (.inr h127)
          clear h127
          go_wp2
          go_ret
          exact ⟨ret_bool HB.out.symm, (Below.refl _ _).alloc (Nat.le_refl _) _⟩
        · have h32' : (32 : Int) ≤ ((Utf8.decode s pos).1 : Int) := by omega
          have h127' : (((Utf8.decode s pos).1 : Int) == 127) = false := by rw [beq_eq_false_iff_ne]; omega
          have HG : Hid (¬ ((Utf8.decode s pos).1 < 32 ∨ (Utf8.decode s pos).1 = 127)) := by show ¬ _; omega
          clear h127
          go_wp2
          go_roundw
          case rel =>
            refine ⟨pos + (Utf8.decode s pos).2, k + 1, rfl, by go_num, hk1, ?_, ?_⟩
            · have h1 := HK.out
              rw [HR.out, List.length_cons] at h1
              show _ = _
              omega
            · show _ = _
              rw [HP.out, HR.out, Ph.plainB_good HG.out]
          case measure =>
            have := Ph.width_pos s pos
            rw [World.iterPos_iter, World.iterPos_iter]
            omega
    · have hnx := fun ty => run_next_end (P := Tryd.prog) w s pos ty hp
      have hT2 : Tabs (w.iter s pos) := hT.keep ((Below.refl _ _).alloc (Nat.le_refl _) _)
      have HK2 : Hid (k = Ph.count s.data.toList ∧ Ph.plainB (Ph.rs s.data.toList) = true) := by
        have h1 := HK.out
        have h2 := HP.out
        rw [Ph.rs_end s pos hp] at h1 h2
        exact ⟨h1, h2⟩
      by_cases h1 : 1 ≤ k ∧ k ≤ 40
      · obtain ⟨ha, hb'⟩ := h1
        have ha' : (1 : Int) ≤ (k : Int) := by omega
        have hb'' : (k : Int) ≤ 40 := by omega
        go_wp2_with (go_at_call 17; refine (runes_Valid _ _ hs hT2).mono ?_; rintro e w' ⟨rfl, hb⟩)
        go_ret
        refine ⟨ret_bool ?_, ((Below.refl _ _).alloc (Nat.le_refl _) (.stringIter s _)).trans (hb.mono (by simp [World.iter]))⟩
        rw [Ph.keyB_long HK2.out.2 (by rw [← HK2.out.1]; omega) (by rw [← HK2.out.1]; omega)]
      · have HS : Hid (Ph.keyB s.data.toList = false) := Ph.keyB_short (by rw [← HK2.out.1]; exact h1)
        by_cases ha : 1 ≤ k
        · have ha' : (1 : Int) ≤ (k : Int) := by omega
          have hb'' : (40 : Int) < (k : Int) := by omega
          clear h1
          go_wp2
          go_ret
          exact ⟨ret_bool HS.out.symm, (Below.refl _ _).alloc (Nat.le_refl _) _⟩
        · have ha' : (k : Int) < 1 := by omega
          clear h1
          go_wp2
          go_ret
          exact ⟨ret_bool HS.out.symm, (Below.refl _ _).alloc (Nat.le_refl _) _⟩

def strLen : Value → Nat | .string s => s.size | _ => 0

set_option maxHeartbeats 800000 in
theorem runes_Less (a b : ByteArray) (w : World) (ha : a.size ≤ 9223372036854775807) (hb : b.size ≤ 9223372036854775807) :
    Calls Tryd.prog 29 #[.string a, .string b] w fun e w' => e = .returned (.bool (Ph.lessL a.data.toList b.data.toList)) ∧ Below w.heap.size w w' := by
  go_enter Tryd.func29, Tryd.ntmps29
  go_wp2
  go_loopw [5, 6] (fun x y wr => ∃ X Y : ByteArray, x = .string X ∧ y = .string Y ∧ X.size ≤ 9223372036854775807 ∧ Y.size ≤ 9223372036854775807 ∧ Hid (Ph.lessL a.data.toList b.data.toList = Ph.lessAt a.data.toList b.data.toList X.data.toList Y.data.toList) ∧ Below w.heap.size w wr) (fun x _ _ => strLen x)
  case atStart => exact ⟨a, b, rfl, rfl, ha, hb, rfl, Below.refl _ _⟩
  case round =>
    obtain ⟨X, Y, rfl, rfl, hX, hY, HL, hbw⟩ := hrel
    by_cases hx : 0 < X.size
    · have ex := Ph.empty_no hx
      by_cases hy : 0 < Y.size
      · have ey := Ph.empty_no hy
        obtain ⟨eX, lX, uX⟩ := Ph.decZ_ne hx
        obtain ⟨eY, lY, uY⟩ := Ph.decZ_ne hy
        have EX := Lib.hid eX
        have EY := Lib.hid eY
        clear eX eY
        go_wp2_with fail
        refine (runes_Decode X _ hX).mono ?_
        rintro e w1 ⟨rfl, hb1⟩
        go_wp2_with fail
        refine (runes_Decode Y _ hY).mono ?_
        rintro e w2 ⟨rfl, hb2⟩
        have hb3 : Below w.heap.size w w2 := (hbw.trans (hb1.mono hbw.size)).trans (hb2.mono (by have := hb1.size; have := hbw.size; omega))
        clear hb1 hb2
        by_cases hne : (Ph.decZ X.data.toList).1 = (Ph.decZ Y.data.toList).1
        · have hne' : (((Ph.decZ X.data.toList).1 : Int) != ((Ph.decZ Y.data.toList).1 : Int)) = false := by rw [hne]; simp
          have HN : Hid (Ph.lessAt a.data.toList b.data.toList X.data.toList Y.data.toList = Ph.lessAt a.data.toList b.data.toList (X.data.toList.drop (Ph.decZ X.data.toList).2) (Y.data.toList.drop (Ph.decZ Y.data.toList).2)) := by
            show _ = _
            rw [Ph.lessAt_eq _ _ _ _ (Ph.ne_of_size hx) (Ph.ne_of_size hy) (by rw [← EX.out, ← EY.out]; exact hne), EX.out, EY.out]
          clear hne
          generalize (Ph.decZ X.data.toList).2 = n at *
          generalize (Ph.decZ Y.data.toList).2 = m at *
          have g1 : (0 : Int) ≤ (n : Int) := by omega
          have g2 : (n : Int) ≤ (X.size : Int) := by omega
          have g3 : (0 : Int) ≤ (m : Int) := by omega
          have g4 : (m : Int) ≤ (Y.size : Int) := by omega
          go_wp2_with fail
          go_quiet (fail)
          go_wp2
          go_roundw
          case rel =>
            have e1 : (X.extract n X.size).size = X.size - n := by simp
            have e2 : (Y.extract m Y.size).size = Y.size - m := by simp
            refine ⟨X.extract n X.size, Y.extract m Y.size, rfl, rfl, by rw [e1]; omega, by rw [e2]; omega, ?_, below_drewN hb3 _⟩
            show _ = _
            rw [HL.out, HN.out, Ph.extract_drop, Ph.extract_drop]
          case measure =>
            show (X.extract n X.size).size < X.size
            have e1 : (X.extract n X.size).size = X.size - n := by simp
            omega
        · have hne' : (((Ph.decZ X.data.toList).1 : Int) != ((Ph.decZ Y.data.toList).1 : Int)) = true := by rw [bne_iff_ne]; omega
          have HN : Hid (Ph.lessL a.data.toList b.data.toList = decide ((Ph.decZ X.data.toList).1 < (Ph.decZ Y.data.toList).1)) := by
            show _ = _
            rw [HL.out, Ph.lessAt_ne _ _ _ _ (Ph.ne_of_size hx) (Ph.ne_of_size hy) (by rw [← EX.out, ← EY.out]; exact hne), EX.out, EY.out]
          clear hne
          go_wp2
          go_ret
          exact ⟨ret_bool HN.out.symm, hb3⟩
      · have ey := Ph.empty_yes hy
        have HN : Hid (Ph.lessL a.data.toList b.data.toList = false) := by
          show _ = _
          rw [HL.out, Ph.nil_of_size hy, Ph.lessAt_right _ _ _ (Ph.ne_of_size hx)]
        go_wp2
        go_ret
        exact ⟨ret_bool HN.out.symm, hbw⟩
    · have ex := Ph.empty_yes hx
      by_cases hy : 0 < Y.size
      · have ey := Ph.empty_no hy
        have HN : Hid (Ph.lessL a.data.toList b.data.toList = true) := by
          show _ = _
          rw [HL.out, Ph.nil_of_size hx, Ph.lessAt_left _ _ _ (Ph.ne_of_size hy)]
        go_wp2
        go_ret
        exact ⟨ret_bool HN.out.symm, hbw⟩
      · have ey := Ph.empty_yes hy
        have HN : Hid (Ph.lessL a.data.toList b.data.toList = Op.bytesLess a.toList b.toList) := by
          show _ = _
          rw [HL.out, Ph.nil_of_size hx, Ph.nil_of_size hy, Ph.lessAt_none, Ph.bytesLess_toList]
        go_wp2
        go_ret
        exact ⟨ret_bool HN.out.symm, hbw⟩
end Go.Proofs.YtmppeellnpepfaaDoor
