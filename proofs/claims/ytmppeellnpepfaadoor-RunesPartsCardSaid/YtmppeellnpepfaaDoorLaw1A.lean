/-
  The walks of the statements of chapter 1: what they share, and the first of them.
-/
import Derived.Test.YtmppeellnpepfaaDoorRefE
set_option linter.unusedVariables false
namespace Go.Proofs.YtmppeellnpepfaaDoor
open Go.RowKit

theorem bjoin {w w1 w2 : World} (h : Below w.heap.size w w1) (k : Below w1.heap.size w1 w2) : Below w.heap.size w w2 := h.trans (k.mono h.size)

/-- A text that is not too long. -/
def cutS (s : ByteArray) (n : Nat) : ByteArray := if n < s.size then s.extract 0 n else s
theorem cutS_size (s : ByteArray) (n : Nat) : (cutS s n).size ≤ n := by
  unfold cutS; split
  · simp; omega
  · omega

theorem law1_Cut (s : ByteArray) (n : Int) (w : World) (hs : s.size ≤ 9223372036854775807) (h0 : 0 ≤ n) :
    Calls Tryd.prog 13 #[.string s, .int .i64 n] w fun e w' => e = .returned (.string (cutS s n.toNat)) ∧ w = w' := by
  obtain ⟨m, rfl⟩ := Int.eq_ofNat_of_zero_le h0
  by_cases h : m < s.size
  · have HC : Hid (cutS s m = s.extract 0 m) := by unfold Hid cutS; rw [if_pos h]
    have h' : (m : Int) < (s.size : Int) := by omega
    go_enter Tryd.func13, Tryd.ntmps13
    go_wp2
    go_ret
    exact ⟨ret_str (by rw [Int.toNat_natCast, HC.out]), rfl⟩
  · have HC : Hid (cutS s m = s) := by unfold Hid cutS; rw [if_neg h]
    have h' : (s.size : Int) ≤ (m : Int) := by omega
    go_enter Tryd.func13, Tryd.ntmps13
    go_wp2
    go_ret
    exact ⟨ret_str (by rw [Int.toNat_natCast, HC.out]), rfl⟩

/-! ### the texts that 'begun' asks of -/
theorem bg1 : Lib.validD [97, 195, 169] = true := by decide +kernel
theorem bg2 : Lib.validD [255] = false := by decide +kernel
theorem bg3 : Ph.count [97, 195, 169, 255] = 3 := by decide +kernel
theorem bg4 : Ph.cutL [97, 195, 169, 98] 2 = [97, 195, 169] := by decide +kernel
theorem bg5 : Ph.keyB [107] = true := by decide +kernel
theorem bg6 : Ph.keyB [] = false := by decide +kernel
theorem bg7 : Ph.lessL [97] [98] = true := by decide +kernel
theorem bg8 : Ph.lower 65 = 97 := by decide +kernel
theorem bg9 : Ph.foldL [195, 128, 255] = [195, 160, 239, 191, 189] := by decide +kernel
theorem bg10 : Ph.decZ [195, 169, 120] = (233, 2) := by decide +kernel
theorem bg11 : Lib.encodeRune 55296 = [239, 191, 189] := by decide +kernel

set_option maxHeartbeats 1000000 in
theorem law1_begun (w : World) (hT : Tabs w) :
    Calls Tryd.prog 12 #[] w fun e w' => e = .returned (.bool true) ∧ Below w.heap.size w w' := by
  go_enter Tryd.func12, Tryd.ntmps12
  go_wp2_with fail
  refine (runes_Decode _ _ (by decide)).mono ?_
  rintro e w1 ⟨rfl, hb1⟩
  rw [bg10]
  go_wp2_with fail
  refine (runes_Valid _ _ (by decide) (hT.keep hb1)).mono ?_
  rintro e w2 ⟨rfl, hb⟩
  rw [bg1]
  have hb2 := bjoin hb1 hb
  clear hb hb1
  go_wp2_with fail
  refine (runes_Valid _ _ (by decide) (hT.keep hb2)).mono ?_
  rintro e w3 ⟨rfl, hb⟩
  rw [bg2]
  have hb3 := bjoin hb2 hb
  clear hb hb2
  go_wp2_with fail
  refine (runes_Count _ _ (by decide)).mono ?_
  rintro e w4 ⟨rfl, hb⟩
  rw [bg3]
  have hb4 := bjoin hb3 hb
  clear hb hb3
  go_wp2_with fail
  refine (runes_Cut _ _ _ (by decide)).mono ?_
  rintro e w5 ⟨rfl, hb⟩
  rw [bg4]
  have hb5 := bjoin hb4 hb
  clear hb hb4
  go_wp2_with fail
  refine (runes_Key _ _ (by decide) (hT.keep hb5)).mono ?_
  rintro e w6 ⟨rfl, hb⟩
  rw [bg5]
  have hb6 := bjoin hb5 hb
  clear hb hb5
  go_wp2_with fail
  refine (runes_Key _ _ (by decide) (hT.keep hb6)).mono ?_
  rintro e w7 ⟨rfl, hb⟩
  rw [bg6]
  have hb7 := bjoin hb6 hb
  clear hb hb6
  go_wp2_with fail
  refine (runes_Less _ _ _ (by decide) (by decide)).mono ?_
  rintro e w8 ⟨rfl, hb⟩
  rw [bg7]
  have hb8 := bjoin hb7 hb
  clear hb hb7
  go_wp2_with fail
  refine (runes_Lower _ _ (by decide) (by decide)).mono ?_
  rintro e w9 ⟨rfl, rfl⟩
  rw [bg8]
  go_wp2_with fail
  refine (runes_Fold _ _ (by decide)).mono ?_
  rintro e w10 ⟨rfl, hb⟩
  rw [bg9]
  have hb10 := bjoin hb8 hb
  clear hb hb8
  go_wp2_with fail
  refine (runes_Encode _ _ (by decide) (by decide)).mono ?_
  rintro e w11 ⟨rfl, hb⟩
  rw [bg11]
  have hb11 := bjoin hb10 hb
  clear hb hb10
  go_wp2
  go_ret
  exact ⟨rfl, hb11⟩

set_option maxHeartbeats 2000000 in
theorem walk_RunesText (s : ByteArray) (n : Int) (w : World) (hs : s.size ≤ 9223372036854775807) (_hn : (Lit.int .i64 n).wf = true) (hT : Tabs w) :
    Calls Tryd.prog 3 #[.string s, .int .i64 n] w fun e w' => e = .returned (.bool true) ∧ Below w.heap.size w w' := by
  go_enter Tryd.func3, Tryd.ntmps3
  go_wp2_with fail
  refine (law1_begun _ hT).mono ?_
  rintro e w1 ⟨rfl, hb1⟩
  go_wp2_with fail
  refine (law1_Cut _ _ _ hs (by decide)).mono ?_
  rintro e w2 ⟨rfl, rfl⟩
  have hz := cutS_size s (Int.toNat 100)
  generalize cutS s (Int.toNat 100) = t at *
  replace hz : t.size ≤ 100 := hz
  go_wp2_with fail
  refine (ref_Runes t _ (by omega)).mono ?_
  rintro e w2 ⟨vl, va, rfl, hl, ha, hb⟩
  obtain ⟨Al, cl, rfl, _, _, fl⟩ := own_slice hl
  clear hl ha fl
  have hb2 := bjoin hb1 hb
  clear hb hb1
  go_wp2_with fail
  refine (runes_Decode t _ (by omega)).mono ?_
  rintro e w3 ⟨rfl, hb⟩
  have hb3 := bjoin hb2 hb
  clear hb hb2
  go_wp2_with fail
  refine (ref_Decode t _ (by omega)).mono ?_
  rintro e w4 ⟨rfl, rfl⟩
  go_wp2_with fail
  refine (runes_Valid t _ (by omega) (hT.keep hb3)).mono ?_
  rintro e w4 ⟨rfl, hb⟩
  have hb4 := bjoin hb3 hb
  clear hb hb3
  go_wp2_with fail
  refine (runes_Count t _ (by omega)).mono ?_
  rintro e w5 ⟨rfl, hb⟩
  unfold Ph.count
  have hb5 := bjoin hb4 hb
  clear hb hb4
  go_wp2_with fail
  refine (runes_Cut t n _ (by omega)).mono ?_
  rintro e w6 ⟨rfl, hb⟩
  have hb6 := bjoin hb5 hb
  clear hb hb5
  go_wp2_with fail
  refine (ref_Cut t n _ (by omega)).mono ?_
  rintro e w7 ⟨rfl, hb⟩
  have hb7 := bjoin hb6 hb
  clear hb hb6
  go_wp2_with fail
  refine (runes_Key t _ (by omega) (hT.keep hb7)).mono ?_
  rintro e w8 ⟨rfl, hb⟩
  have hb8 := bjoin hb7 hb
  clear hb hb7
  go_wp2_with fail
  refine (ref_Key t _ (by omega)).mono ?_
  rintro e w9 ⟨rfl, hb⟩
  have hb9 := bjoin hb8 hb
  clear hb hb8
  go_wp2_with fail
  refine (runes_Fold t _ (by omega)).mono ?_
  rintro e w10 ⟨rfl, hb⟩
  have hb10 := bjoin hb9 hb
  clear hb hb9
  go_wp2_with fail
  refine (ref_Fold t _ (by omega)).mono ?_
  rintro e w11 ⟨rfl, hb⟩
  have hb11 := bjoin hb10 hb
  clear hb hb10
  go_wp2
  go_ret
  exact ⟨rfl, hb11⟩
end Go.Proofs.YtmppeellnpepfaaDoor
