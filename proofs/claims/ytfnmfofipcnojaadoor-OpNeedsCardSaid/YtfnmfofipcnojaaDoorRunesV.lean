/-
  The walk of runes.Valid: utf8.ValidString by its contract.
-/
import Derived.Test.YtfnmfofipcnojaaDoorChecked
import Derived.Test.YtfnmfofipcnojaaDoorRunesStep
import Derived.WalkKit
import Derived.WalkLawsBesides
import Derived.WalkSpells
import Derived.Lib.Hide
import Derived.Test.YtfnmfofipcnojaaDoorShelf
set_option linter.unusedVariables false
namespace Go.Proofs.YtfnmfofipcnojaaDoor
open Go.RowKit

theorem ret_bool {a b : Bool} (h : a = b) : Ending.returned (.bool a) = .returned (.bool b) := by rw [h]
theorem ret_str {a b : ByteArray} (h : a = b) : Ending.returned (.string a) = .returned (.string b) := by rw [h]
theorem ret_tab {k k' : IntKind} {a b c d : Int} (h : a = b) (h' : c = d) : Ending.returned (.tuple #[.int k a, .int k' c]) = .returned (.tuple #[.int k b, .int k' d]) := by rw [h, h']
theorem tabs_below {g h : Nat} {w w' : World} {B : Nat} (hT : Lib.Utf8Tabs g h w) (hb : Below B w w') (hg : g < B) (hh : h < B) : Lib.Utf8Tabs g h w' :=
  ⟨fun c hc => (hb.cell (p := ⟨g, c, none⟩) hg).trans (hT.1 c hc), fun i hi => ⟨(hb.cell (p := ⟨h, 2 * i, none⟩) hh).trans (hT.2 i hi).1, (hb.cell (p := ⟨h, 2 * i + 1, none⟩) hh).trans (hT.2 i hi).2⟩⟩
theorem tabs_lt {g h : Nat} {w : World} (hT : Lib.Utf8Tabs g h w) : g < w.heap.size ∧ h < w.heap.size :=
  ⟨World.block_lt_of_cell? w _ (hT.1 0 (by omega)), World.block_lt_of_cell? w _ (hT.2 0 (by omega)).1⟩
theorem tabs_keep {g h : Nat} {w w' : World} (hT : Lib.Utf8Tabs g h w) (hb : Below w.heap.size w w') : Lib.Utf8Tabs g h w' :=
  tabs_below hT hb (tabs_lt hT).1 (tabs_lt hT).2

/-- The two tables of unicode/utf8, as the cards tie them: what every walk that may come to utf8.ValidString asks. A name, so that no walk looks behind it. -/
def Tabs (w : World) : Prop := Lib.Utf8Tabs 0 1 w
theorem Tabs.keep {w w' : World} (h : Tabs w) (hb : Below w.heap.size w w') : Tabs w' := tabs_keep h hb
theorem Tabs.below {w w' : World} {B : Nat} (h : Tabs w) (hb : Below B w w') (hB : w.heap.size ≤ B) : Tabs w' := tabs_keep h (hb.mono hB)

set_option maxHeartbeats 400000 in
theorem runes_Valid (s : ByteArray) (w : World) (hs : s.size ≤ 9223372036854775807) (hT : Tabs w) :
    Calls Tryd.prog 35 #[.string s] w fun e w' => e = .returned (.bool (Lib.validD s.data.toList)) ∧ Below w.heap.size w w' := by
  go_enter Tryd.func35, Tryd.ntmps35
  go_wp2_with (go_at_call 48; refine (Tryd.utf8_ValidString _ _ hs hT).mono ?_; rintro e w' ⟨rfl, hb⟩)
  go_ret
  exact ⟨rfl, hb⟩
end Go.Proofs.YtfnmfofipcnojaaDoor
