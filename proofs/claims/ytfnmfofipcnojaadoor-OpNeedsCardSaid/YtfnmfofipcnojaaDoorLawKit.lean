/-
  What the walks of all statements share: worlds joined; a text that is cut.
-/
import Derived.Test.YtfnmfofipcnojaaDoorRunesV
set_option linter.unusedVariables false
namespace Go.Proofs.YtfnmfofipcnojaaDoor
open Go.RowKit

theorem bjoin {w w1 w2 : World} (h : Below w.heap.size w w1) (k : Below w1.heap.size w1 w2) : Below w.heap.size w w2 := h.trans (k.mono h.size)

/-- A text that is not too long. -/
def cutS (s : ByteArray) (n : Nat) : ByteArray := if n < s.size then s.extract 0 n else s
theorem cutS_size (s : ByteArray) (n : Nat) : (cutS s n).size ≤ n := by
  unfold cutS; split
  · simp; omega
  · omega

theorem law1_Cut (s : ByteArray) (n : Int) (w : World) (hs : s.size ≤ 9223372036854775807) (h0 : 0 ≤ n) :
    Calls Tryd.prog 22 #[.string s, .int .i64 n] w fun e w' => e = .returned (.string (cutS s n.toNat)) ∧ w = w' := by
  obtain ⟨m, rfl⟩ := Int.eq_ofNat_of_zero_le h0
  by_cases h : m < s.size
  · have HC : Hid (cutS s m = s.extract 0 m) := by unfold Hid cutS; rw [if_pos h]
    have h' : (m : Int) < (s.size : Int) := by omega
    go_enter Tryd.func22, Tryd.ntmps22
    go_wp2
    go_ret
    exact ⟨ret_str (by rw [Int.toNat_natCast, HC.out]), rfl⟩
  · have HC : Hid (cutS s m = s) := by unfold Hid cutS; rw [if_neg h]
    have h' : (s.size : Int) ≤ (m : Int) := by omega
    go_enter Tryd.func22, Tryd.ntmps22
    go_wp2
    go_ret
    exact ⟨ret_str (by rw [Int.toNat_natCast, HC.out]), rfl⟩

end Go.Proofs.YtfnmfofipcnojaaDoor
